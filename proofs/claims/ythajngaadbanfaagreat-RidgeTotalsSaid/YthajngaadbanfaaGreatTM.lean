/- A verified evaluator of the program's form and its use for this seat: S1EqSvd, S1PSvd, S1PSvdA, S1POfS, S1EqRef20, S1PSubSt, S1EqRef19, TileL, BndM, SvdN, S1PRef19, S1PRef19A, S1EqBes. -/
import Derived.Test.YthajngaadbanfaaGreatTE
import Derived.Test.YthajngaadbanfaaGreatTF
import Derived.Test.YthajngaadbanfaaGreatTL
import Derived.Test.YthajngaadbanfaaGreatTK
import Derived.Test.YthajngaadbanfaaGreatTJ
set_option linter.unusedVariables false
set_option linter.unusedSimpArgs false
noncomputable section
open Int (toNat)
open List (length getD)
open Go.Proofs.Tryz
namespace Go.Proofs.S1
open Go Go.Den Go.Rnd Go.Proofs
set_option maxRecDepth 100000
namespace EqSvd
def B5.Cr.Ba:List (Nat × Entry):=[(80,compare.Hn.spec),(78,compare.K3.spec),(68,Aa.D3.spec),(81,soft.Dn.spec),(181,soft.Sign.spec),(137,Ae.Add.spec),(82,Ae.Div.spec),(134,Ae.Iv.spec),(138,Ae.Mul.spec),(67,Ae.Norm.spec),(79,Ae.Br.spec),(139,Ae.Sqrt.spec),(201,Ae.Sub.spec)]
def B5.Cr.live:Nat→Option (List Nat)
 | 2=>some [3,8,9,10]
 | 5=>some [3,8,9,10,11,13,15]
 | 8=>some [8,9,10,15]
 | 11=>some [8,22]
 | 12=>some [8,22,23]
 | 13=>some [8,22,24]
 | 15=>some [8,24]
 | _=>none
def B5.Cr.E:Env:=Bg (Bb B5.Cr.Ba) (fun _=>false) (fun _=>none) B5.Cr.live
section
variable (N:Nat) (r c:Int) (l:List Int) (i k p24_1 p22 p24 p23 b:Int) (p9 p10:List Int) (p11 p13 p15:Int)
def B5.Cr.C2:Option DV:=cutAt B5.Cr.E N f169 (Ak f169) [1,1] [] ⟨Fo 114 [(3,.int .u64 b),(8,.ptr 8 0 0),(9,.ints .fresh .u64 p9),(10,.ints .fresh .u64 p10)],[(8,false,.box [.int .u64 0,.int .u64 0,.bool false]),(4,false,.box [.int .i64 r,.int .i64 c,.ints .arg .u64 l])]⟩
def B5.Cr.C5:Option DV:=cutAt B5.Cr.E N f169 (Ak f169) [1,1,1,1,1] [] ⟨Fo 114 [(3,.int .u64 b),(8,.ptr 8 0 0),(9,.ints .fresh .u64 p9),(10,.ints .fresh .u64 p10),(11,.int .u64 p11),(13,.int .u64 p13),(15,.int .u64 p15)],[(8,false,.box [.int .u64 0,.int .u64 0,.bool false]),(4,false,.box [.int .i64 r,.int .i64 c,.ints .arg .u64 l])]⟩
def B5.Cr.C8:Option DV:=cutAt B5.Cr.E N f169 (Ak f169) [1,1,1,1,1,1,1] [] ⟨Fo 114 [(8,.ptr 8 0 0),(9,.ints .fresh .u64 p9),(10,.ints .fresh .u64 p10),(15,.int .u64 p15)],[(8,false,.box [.int .u64 0,.int .u64 0,.bool false]),(4,false,.box [.int .i64 r,.int .i64 c,.ints .arg .u64 l])]⟩
def B5.Cr.C11:Option DV:=cutAt B5.Cr.E N f169 (Ak f169) [1,1,1,1,1,1,1,1,1,1] [] ⟨Fo 114 [(8,.ptr 8 0 0),(22,.int .u64 p22)],[(8,false,.box [.int .u64 0,.int .u64 0,.bool false]),(4,false,.box [.int .i64 r,.int .i64 c,.ints .arg .u64 l])]⟩
def B5.Cr.C12:Option DV:=cutAt B5.Cr.E N f169 (Ak f169) [1,1,1,1,1,1,1,1,1,1,1] [] ⟨Fo 114 [(8,.ptr 8 0 0),(22,.int .u64 p22),(23,.int .u64 p23)],[(8,false,.box [.int .u64 0,.int .u64 0,.bool false]),(4,false,.box [.int .i64 r,.int .i64 c,.ints .arg .u64 l])]⟩
def B5.Cr.C13:Option DV:=cutAt B5.Cr.E N f169 (Ak f169) [1,1,1,1,1,1,1,1,1,1,1,1,0] [] ⟨Fo 114 [(8,.ptr 8 0 0),(22,.int .u64 p22),(24,.int .u64 p24)],[(8,false,.box [.int .u64 0,.int .u64 0,.bool false]),(4,false,.box [.int .i64 r,.int .i64 c,.ints .arg .u64 l])]⟩
def B5.Cr.C15:Option DV:=cutAt B5.Cr.E N f169 (Ak f169) [1,1,1,1,1,1,1,1,1,1,1,1,1] [] ⟨Fo 114 [(8,.ptr 8 0 0),(24,.int .u64 p24_1)],[(8,false,.box [.int .u64 0,.int .u64 0,.bool false]),(4,false,.box [.int .i64 r,.int .i64 c,.ints .arg .u64 l])]⟩
theorem B5.Cr.Ajb:B5.Cr.C2 N r c l b p9 p10=bif (B4 p9&&B3 (length p9≤64)) then bif (B4 p10&&B3 (length p10≤64)) then bif ((O5 p9 p10&&Aj p9)&&Aj p10) then B5.Cr.C5 N r c l b p9 p10 (B6 p9) (B6 p10) (Ik p9 p10) else none else none else none:=(Dk _ _ _ _ _ _ _).trans (by kernel_rfl)
theorem B5.Cr.Aja:B5.Cr.C5 N r c l b p9 p10 p11 p13 p15=bif (Af p11&&Af p13) then bif (Dd (Ca p11 p13) (-44:Int)) then bif (Af b&&Af p11) then bif ((!(decide (G7 b p11<0)))||(Af b&&Af p13)) then bif (((!(decide (G7 b p11<0)))||(!(decide (G7 b p13<0))))||(Af p15)) then bif (((!(decide (G7 b p11<0)))||(!(decide (G7 b p13<0))))||(Af (Bf (Ca p11 p13) (-44:Int))&&Af (Gj p15))) then bif (((!(decide (G7 b p11<0)))||(!(decide (G7 b p13<0))))||(!(decide (G7 (Bf (Ca p11 p13) (-44:Int)) (Gj p15)<0)))) then some (.agg [.int .u64 0,.int .u64 0,.bool true]) else B5.Cr.C8 N r c l p9 p10 p15 else none else none else none else none else none else none :=
 Eq.trans ((Dk _ _ _ _ _ _ _).trans (by kernel_rfl))
 (E1 (E1 (E1 (Ay (Un (decide (G7 b p11<0))) (Ay (Un (decide (G7 b p11<0))) (Cw (Axw _ _) (Ay (Pz (decide (G7 b p11<0))) (Ay (Xc (decide (G7 b p11<0))) (Ay (Ago (decide (G7 b p11<0)) (decide (G7 b p13<0))) (Ay (Ago (decide (G7 b p11<0)) (decide (G7 b p13<0))) (Cw (Axx _ _ _) (Cw (Aqy _ _ _) (Ay (Anf (decide (G7 b p11<0)) (decide (G7 b p13<0))) (Ay (Ayo (decide (G7 b p11<0)) (decide (G7 b p13<0))) (Cw (A1q _ _ _) rfl rfl))) rfl) rfl))))) rfl))) rfl) rfl) rfl)
theorem B5.Cr.Aed:B5.Cr.C8 N r c l p9 p10 p15=bif ((O5 p9 p9&&Aj p9)&&Aj p9) then bif ((O5 p10 p10&&Aj p10)&&Aj p10) then bif (Af (Ik p10 p10)&&Af (Ik p9 p9)) then bif (Af p15&&Af p15) then bif (Af (Gb (Ik p10 p10) (Ik p9 p9))&&Af (Dm p15 p15)) then B5.Cr.C11 N r c l (Es (Gb (Ik p10 p10) (Ik p9 p9)) (Dm p15 p15)) else none else none else none else none else none:=(Dk _ _ _ _ _ _ _).trans (by kernel_rfl)
theorem B5.Cr.Vh:B5.Cr.C11 N r c l p22=bif (Af p22&&Af p22) then bif (Af 4607182418800017408&&Af (Ca p22 p22)) then bif (Af (Dm 4607182418800017408 (Ca p22 p22))) then B5.Cr.C12 N r c l p22 (Ea (Dm 4607182418800017408 (Ca p22 p22))) else none else none else none:=(Dk _ _ _ _ _ _ _).trans (by kernel_rfl)
theorem B5.Cr.Ab8:B5.Cr.C12 N r c l p22 p23=bif (Af p22) then bif (Af (Gj p22)&&Af p23) then bif (Af 4607182418800017408&&Af (Dm (Gj p22) p23)) then B5.Cr.C13 N r c l p22 (Es 4607182418800017408 (Dm (Gj p22) p23)) else none else none else none:=(Dk _ _ _ _ _ _ _).trans (by kernel_rfl)
theorem B5.Cr.Az9:B5.Cr.C13 N r c l p22 p24=bif (Af p22) then bif (Eb p22) then bif (Af p24) then B5.Cr.C15 N r c l (Da p24) else none else B5.Cr.C15 N r c l p24 else none:=(Dk _ _ _ _ _ _ _).trans (by kernel_rfl)
theorem B5.Cr.Alh:B5.Cr.C15 N r c l p24_1=bif (Af p24_1&&Af p24_1) then bif (Af 4607182418800017408&&Af (Ca p24_1 p24_1)) then bif (Af (Dm 4607182418800017408 (Ca p24_1 p24_1))) then bif (Af 4607182418800017408&&Af (Ea (Dm 4607182418800017408 (Ca p24_1 p24_1)))) then bif (Af (Es 4607182418800017408 (Ea (Dm 4607182418800017408 (Ca p24_1 p24_1))))&&Af p24_1) then some (.agg [.int .u64 (Es 4607182418800017408 (Ea (Dm 4607182418800017408 (Ca p24_1 p24_1)))),.int .u64 (Ca (Es 4607182418800017408 (Ea (Dm 4607182418800017408 (Ca p24_1 p24_1)))) p24_1),.bool false]) else none else none else none else none else none:=(Dk _ _ _ _ _ _ _).trans (by kernel_rfl)
theorem B5.Cr.ev:B0 B5.Cr.E N f169 (Ak f169) [.agg [.int .i64 r,.int .i64 c,.ints .arg .u64 l],.int .i64 i,.int .i64 k,.int .u64 b]=bif (Hh r c l i&&B3 (0≤(0:Int)∧(0:Int)≤r)) then bif (Hh r c l k&&B3 (0≤(0:Int)∧(0:Int)≤r)) then B5.Cr.C2 N r c l b (Cn c l i 0 (toNat (r-0))) (Cn c l k 0 (toNat (r-0))) else none else none :=
 Eq.trans (by kernel_rfl)
 (Cw (Ct _) (Cw (Ct _) rfl rfl) rfl)
end
abbrev _root_.Go.Proofs.S1.B5.Cr.Kn:=A8 prog 169 B5.Cr.spec
theorem B5.Cr.Ad (hk:A1 prog B5.Cr.Ba) (h:Hyp B5.Cr.E f169 B5.Cr.ts B5.Cr.pre B5.Cr.out):B5.Cr.Kn :=
 Al (A4 hk _ _ _) func169 (by kernel_rfl) (by kernel_rfl) h
def B5.rounds.hint:Nat→Option Bc
 | 0=>some { keep:=[2,3,4,6,7,13],objs:=[],boxes:=[3,4,6,7] }
 | 2=>some { keep:=[2,3,4,6,7,9,13,16,17],objs:=[],boxes:=[3,4,6,7] }
 | 4=>some { keep:=[2,3,4,6,7,9,10,11,13,16,17],objs:=[],boxes:=[3,4,6,7] }
 | _=>none
def B5.rounds.Ba:List (Nat × Entry):=[(170,Cx.Gz.spec),(81,soft.Dn.spec),(169,B5.Cr.spec)]
def B5.rounds.E:Env:=Bg (Bb B5.rounds.Ba) (fun _=>false) B5.rounds.hint (fun _=>none)
section
variable (N M0 M1 M:Nat) (r c:Int) (l:List Int) (p q:Int) (m:List Int) (b p11:Int) (p9:Bool) (p3 p4:List Int) (p10 p17_1 p13_2 p17:Int) (p9_1:Bool) (p3_1 p4_1:List Int) (p13_1 p13:Int) (p3_2 p4_2:List Int)
def B5.rounds.L0:Option DV:=Cb B5.rounds.E N f127 (Ak f127) [1,0,1,0] [] M ⟨Fo 66 [(2,.int .u64 b),(3,.ptr 3 0 0),(4,.ptr 4 0 0),(6,.ptr 6 0 0),(7,.ptr 7 0 0),(13,.int .i64 p13)],[(3,false,.box [.int .i64 r,.int .i64 c,.ints .arg .u64 p3_2]),(4,false,.box [.int .i64 p,.int .i64 q,.ints .arg .u64 p4_2]),(6,false,.box [.int .i64 0,.int .i64 0,.nil]),(7,false,.box [.int .i64 0,.int .i64 0,.nil])]⟩
def B5.rounds.L1:Option DV:=Cb B5.rounds.E N f127 (Ak f127) [1,0,1,0,0,1,1,0,0,0,1,1,0,1,0] [M0] M ⟨Fo 66 [(2,.int .u64 b),(3,.ptr 3 0 0),(4,.ptr 4 0 0),(6,.ptr 6 0 0),(7,.ptr 7 0 0),(9,.bool p9_1),(13,.int .i64 p13_1),(16,.int .i64 c),(17,.int .i64 p17)],[(3,false,.box [.int .i64 r,.int .i64 c,.ints .arg .u64 p3_1]),(4,false,.box [.int .i64 p,.int .i64 q,.ints .arg .u64 p4_1]),(6,false,.box [.int .i64 0,.int .i64 0,.nil]),(7,false,.box [.int .i64 0,.int .i64 0,.nil])]⟩
def B5.rounds.L2:Option DV:=Cb B5.rounds.E N f127 (Ak f127) [1,0,1,0,0,1,1,0,0,0,1,1,0,1,0,0,1,1,0,0,1,0,1,0] [M0,M1] M ⟨Fo 66 [(2,.int .u64 b),(3,.ptr 3 0 0),(4,.ptr 4 0 0),(6,.ptr 6 0 0),(7,.ptr 7 0 0),(9,.bool p9),(10,.int .i64 p10),(11,.int .i64 p11),(13,.int .i64 p13_2),(16,.int .i64 c),(17,.int .i64 p17_1)],[(3,false,.box [.int .i64 r,.int .i64 c,.ints .arg .u64 p3]),(4,false,.box [.int .i64 p,.int .i64 q,.ints .arg .u64 p4]),(6,false,.box [.int .i64 0,.int .i64 0,.nil]),(7,false,.box [.int .i64 0,.int .i64 0,.nil])]⟩
theorem B5.rounds.Au:B5.rounds.L0 N (M+1) r c p q b p13 p3_2 p4_2=bif (Bi p13 60) then B5.rounds.L1 N M N r c p q b 0 true p3_2 p4_2 p13 else some (.tup [.agg [.int .i64 r,.int .i64 c,.ints .arg .u64 p3_2],.agg [.int .i64 p,.int .i64 q,.ints .arg .u64 p4_2],.int .i64 6]):=by kernel_rfl
theorem B5.rounds.Ch:B5.rounds.L1 N M0 (M+1) r c p q b p17 p9_1 p3_1 p4_1 p13_1=bif (Bi p17 c) then B5.rounds.L2 N M0 M N r c p q b (Ab (p17+1)) p9_1 p3_1 p4_1 p17 p17 p13_1 else bif p9_1 then some (.tup [.agg [.int .i64 r,.int .i64 c,.ints .arg .u64 p3_1],.agg [.int .i64 p,.int .i64 q,.ints .arg .u64 p4_1],.int .i64 0]) else B5.rounds.L0 N M0 r c p q b (Ab (p13_1+1)) p3_1 p4_1:=by kernel_rfl
theorem B5.rounds.Kv:B5.rounds.L2 N M0 M1 (M+1) r c p q b p11 p9 p3 p4 p10 p17_1 p13_2=bif (Bi p11 c) then bif (A3 r c p3&&(Aj p3&&(Af b&&B3 (0≤p10∧p10<c∧0≤p11∧p11<c)))) then bif (W9 (Ey (toNat r) (toNat c) p3 (toNat p10)) (Ey (toNat r) (toNat c) p3 (toNat p11)) b) then B5.rounds.L2 N M0 M1 M r c p q b (Ab (p11+1)) p9 p3 p4 p10 p17_1 p13_2 else bif (Af (trS (Ey (toNat r) (toNat c) p3 (toNat p10)) (Ey (toNat r) (toNat c) p3 (toNat p11)) b)) then bif (A3 r c p3&&(Aj p3&&((Af (trC (Ey (toNat r) (toNat c) p3 (toNat p10)) (Ey (toNat r) (toNat c) p3 (toNat p11)) b)&&Af (Da (trS (Ey (toNat r) (toNat c) p3 (toNat p10)) (Ey (toNat r) (toNat c) p3 (toNat p11)) b)))&&B3 (0≤p10∧p10<c∧0≤p11∧p11<c∧p10≠p11)))) then bif (Af (trS (Ey (toNat r) (toNat c) p3 (toNat p10)) (Ey (toNat r) (toNat c) p3 (toNat p11)) b)) then bif (A3 p q p4&&(Aj p4&&((Af (trC (Ey (toNat r) (toNat c) p3 (toNat p10)) (Ey (toNat r) (toNat c) p3 (toNat p11)) b)&&Af (Da (trS (Ey (toNat r) (toNat c) p3 (toNat p10)) (Ey (toNat r) (toNat c) p3 (toNat p11)) b)))&&B3 (0≤p10∧p10<q∧0≤p11∧p11<q∧p10≠p11)))) then B5.rounds.L2 N M0 M1 M r c p q b (Ab (p11+1)) false (O6 (toNat r) (toNat c) p3 (toNat p10) (toNat p11) (trC (Ey (toNat r) (toNat c) p3 (toNat p10)) (Ey (toNat r) (toNat c) p3 (toNat p11)) b) (Da (trS (Ey (toNat r) (toNat c) p3 (toNat p10)) (Ey (toNat r) (toNat c) p3 (toNat p11)) b))) (O6 (toNat p) (toNat q) p4 (toNat p10) (toNat p11) (trC (Ey (toNat r) (toNat c) p3 (toNat p10)) (Ey (toNat r) (toNat c) p3 (toNat p11)) b) (Da (trS (Ey (toNat r) (toNat c) p3 (toNat p10)) (Ey (toNat r) (toNat c) p3 (toNat p11)) b))) p10 p17_1 p13_2 else none else none else none else none else none else B5.rounds.L1 N M0 M1 r c p q b (Ab (p17_1+1)) p9 p3 p4 p13_2 :=
 Eq.trans (by kernel_rfl)
 (E1 (E1 (E1 rfl (Cw (Ct _) (Cw (Ct _) (Cw (Ct _) (Cw (Ct _) rfl rfl) rfl) rfl) rfl)) rfl) rfl)
theorem B5.rounds.ev:B0 B5.rounds.E N f127 (Ak f127) [.agg [.int .i64 r,.int .i64 c,.ints .arg .u64 l],.agg [.int .i64 p,.int .i64 q,.ints .arg .u64 m],.int .u64 b] =
 B5.rounds.L0 N N r c p q b 0 l m:=by kernel_rfl
end
abbrev _root_.Go.Proofs.S1.B5.rounds.Kn:=A8 prog 127 B5.rounds.spec
theorem B5.rounds.Ad (hk:A1 prog B5.rounds.Ba) (h:Hyp B5.rounds.E f127 B5.rounds.ts B5.rounds.pre B5.rounds.out):B5.rounds.Kn :=
 Al (A4 hk _ _ _) func127 (by kernel_rfl) (by kernel_rfl) h
def B5.Be.hint:Nat→Option Bc
 | 0=>some { keep:=[1,4,5,14,15,16],objs:=[(6,2,106002,.ints 43 .u64 [])],boxes:=[4,5] }
 | _=>none
def B5.Be.Ba:List (Nat × Entry):=[(79,Ae.Br.spec)]
def B5.Be.E:Env:=Bg (Bb B5.Be.Ba) (fun _=>false) B5.Be.hint (fun _=>none)
section
variable (N M:Nat) (r c:Int) (l:List Int) (k p16:Int) (p2:List Int)
def B5.Be.L0:Option DV:=Cb B5.Be.E N f125 (Ak f125) [1,1,0,1,0] [] M ⟨Fo 30 [(1,.int .i64 k),(4,.ptr 4 0 0),(5,.ptr 5 0 0),(14,.ints .arg .u64 l),(15,.int .i64 (length l:Int)),(16,.int .i64 p16)],[(4,false,.box [.int .i64 0,.int .i64 0,.nil]),(5,false,.box [.int .i64 r,.int .i64 c,.oref 106002]),(106002,false,.ints 43 .u64 p2)]⟩
theorem B5.Be.Au:B5.Be.L0 N (M+1) r c l k p16 p2=bif (Bi p16 (length l:Int)) then bif ((decide (0≤p16))&&(decide (p16<(length l:Int)))) then bif (Dd (getD l (toNat p16) 0) k) then bif (decide ((length p2)+1≤G8)) then B5.Be.L0 N M r c l k (Ab (p16+1)) (p2++[(Bf (getD l (toNat p16) 0) k)]) else none else none else none else some (.agg [.int .i64 r,.int .i64 c,.ints (.own 106002 43) .u64 p2]) :=
 Eq.trans (by kernel_rfl)
 (E1 (E1 (Cw (Ct _) (Cw (Ct _) rfl rfl) rfl) rfl) rfl)
theorem B5.Be.ev:B0 B5.Be.E N f125 (Ak f125) [.agg [.int .i64 r,.int .i64 c,.ints .arg .u64 l],.int .i64 k] =
 B5.Be.L0 N N r c l k 0 []:=by kernel_rfl
end
abbrev _root_.Go.Proofs.S1.B5.Be.Kn:=A8 prog 125 B5.Be.spec
theorem B5.Be.Ad (hk:A1 prog B5.Be.Ba) (h:Hyp B5.Be.E f125 B5.Be.ts B5.Be.pre B5.Be.out):B5.Be.Kn :=
 Al (A4 hk _ _ _) func125 (by kernel_rfl) (by kernel_rfl) h
def B5.at.hint:Nat→Option Bc
 | 0=>some { keep:=[1,2,4,5,15,16],objs:=[(6,2,106002,.ints 43 .u64 [])],boxes:=[2,4,5] }
 | 2=>some { keep:=[1,2,4,5,6,15,16,19,20,21],objs:=[(6,2,106002,.ints 43 .u64 [])],boxes:=[2,4,5] }
 | _=>none
def B5.at.Ba:List (Nat × Entry):=[]
def B5.at.E:Env:=Bg (Bb B5.at.Ba) (fun _=>false) B5.at.hint (fun _=>none)
section
variable (N M0 M:Nat) (r c:Int) (l x:List Int) (p6 p16_1 p21:Int) (p2:List Int) (p16:Int) (p2_1:List Int)
def B5.at.L0:Option DV:=Cb B5.at.E N f132 (Ak f132) [1,1,0,1,0] [] M ⟨Fo 43 [(1,.ints .arg .i64 x),(2,.ptr 2 0 0),(4,.ptr 4 0 0),(5,.ptr 5 0 0),(15,.int .i64 r),(16,.int .i64 p16)],[(2,false,.box [.int .i64 r,.int .i64 c,.ints .arg .u64 l]),(4,false,.box [.int .i64 0,.int .i64 0,.nil]),(5,false,.box [.int .i64 r,.int .i64 c,.oref 106002]),(106002,false,.ints 43 .u64 p2_1)]⟩
def B5.at.L1:Option DV:=Cb B5.at.E N f132 (Ak f132) [1,1,0,1,0,0,1,1,0,0,1,1,0] [M0] M ⟨Fo 43 [(1,.ints .arg .i64 x),(2,.ptr 2 0 0),(4,.ptr 4 0 0),(5,.ptr 5 0 0),(6,.int .i64 p6),(15,.int .i64 r),(16,.int .i64 p16_1),(19,.ints .arg .i64 x),(20,.int .i64 (length x:Int)),(21,.int .i64 p21)],[(2,false,.box [.int .i64 r,.int .i64 c,.ints .arg .u64 l]),(4,false,.box [.int .i64 0,.int .i64 0,.nil]),(5,false,.box [.int .i64 r,.int .i64 c,.oref 106002]),(106002,false,.ints 43 .u64 p2)]⟩
theorem B5.at.Au:B5.at.L0 N (M+1) r c l x p16 p2_1=bif (Bi p16 r) then B5.at.L1 N M N r c l x p16 p16 0 p2_1 else some (.agg [.int .i64 r,.int .i64 c,.ints (.own 106002 43) .u64 p2_1]):=by kernel_rfl
theorem B5.at.Ch:B5.at.L1 N M0 (M+1) r c l x p6 p16_1 p21 p2=bif (Bi p21 (length x:Int)) then bif ((decide (0≤p21))&&(decide (p21<(length x:Int)))) then bif ((decide (0≤(Ab ((Ab (p6*c))+(getD x (toNat p21) 0)))))&&(decide ((Ab ((Ab (p6*c))+(getD x (toNat p21) 0)))<(length l:Int)))) then bif (decide ((length p2)+1≤G8)) then B5.at.L1 N M0 M r c l x p6 p16_1 (Ab (p21+1)) (p2++[(getD l (toNat (Ab ((Ab (p6*c))+(getD x (toNat p21) 0)))) 0)]) else none else none else none else B5.at.L0 N M0 r c l x (Ab (p16_1+1)) p2 :=
 Eq.trans (by kernel_rfl)
 (E1 (E1 (Cw (Kb _ _) (Cw (Ct _) rfl rfl) rfl) rfl) rfl)
theorem B5.at.ev:B0 B5.at.E N f132 (Ak f132) [.agg [.int .i64 r,.int .i64 c,.ints .arg .u64 l],.ints .arg .i64 x] =
 B5.at.L0 N N r c l x 0 []:=by kernel_rfl
end
abbrev _root_.Go.Proofs.S1.B5.at.Kn:=A8 prog 132 B5.at.spec
theorem B5.at.Ad (hk:A1 prog B5.at.Ba) (h:Hyp B5.at.E f132 B5.at.ts B5.at.pre B5.at.out):B5.at.Kn :=
 Al (A4 hk _ _ _) func132 (by kernel_rfl) (by kernel_rfl) h
def B5.Gd.hint:Nat→Option Bc
 | 0=>some { keep:=[1,3,8,9],objs:=[(0,3,100003,.ints 43 .u64 [])],boxes:=[1] }
 | _=>none
def B5.Gd.Ba:List (Nat × Entry):=[(68,Aa.D3.spec),(67,Ae.Norm.spec)]
def B5.Gd.E:Env:=Bg (Bb B5.Gd.Ba) (fun _=>false) B5.Gd.hint (fun _=>none)
section
variable (N M:Nat) (r c:Int) (l:List Int) (p9:Int) (p3:List Int)
def B5.Gd.L0:Option DV:=Cb B5.Gd.E N f128 (Ak f128) [1,1,0,1,0] [] M ⟨Fo 25 [(1,.ptr 1 0 0),(3,.oref 100003),(8,.int .i64 c),(9,.int .i64 p9)],[(1,false,.box [.int .i64 r,.int .i64 c,.ints .arg .u64 l]),(100003,false,.ints 43 .u64 p3)]⟩
theorem B5.Gd.Au:B5.Gd.L0 N (M+1) r c l p9 p3=bif (Bi p9 c) then bif (Hh r c l p9&&B3 (0≤(0:Int)∧(0:Int)≤r)) then bif (B4 (Cn c l p9 0 (toNat (r-0)))&&B3 (length (Cn c l p9 0 (toNat (r-0)))≤64)) then bif (decide ((length p3)+1≤G8)) then B5.Gd.L0 N M r c l (Ab (p9+1)) (p3++[(B6 (Cn c l p9 0 (toNat (r-0))))]) else none else none else none else some (.ints (.own 100003 43) .u64 p3):=by kernel_rfl
theorem B5.Gd.ev:B0 B5.Gd.E N f128 (Ak f128) [.agg [.int .i64 r,.int .i64 c,.ints .arg .u64 l]] =
 B5.Gd.L0 N N r c l 0 []:=by kernel_rfl
end
abbrev _root_.Go.Proofs.S1.B5.Gd.Kn:=A8 prog 128 B5.Gd.spec
theorem B5.Gd.Ad (hk:A1 prog B5.Gd.Ba) (h:Hyp B5.Gd.E f128 B5.Gd.ts B5.Gd.pre B5.Gd.out):B5.Gd.Kn :=
 Al (A4 hk _ _ _) func128 (by kernel_rfl) (by kernel_rfl) h
def B5.Az.hint:Nat→Option Bc
 | 0=>some { keep:=[2,3,6,9,10,56,57],objs:=[(0,10,100010,.ints 3 .i64 [])],boxes:=[2,3,9] }
 | _=>none
def B5.Az.Ba:List (Nat × Entry):=[(69,Cz.Check.spec),(123,compare.Lh.spec),(126,Aa.Ff.spec),(132,B5.at.spec),(128,B5.Gd.spec),(127,B5.rounds.spec),(125,B5.Be.spec),(124,Ae.Bv.spec),(66,Ae.Finite.spec),(67,Ae.Norm.spec),(79,Ae.Br.spec)]
def B5.Az.live:Nat→Option (List Nat)
 | 5=>some [1,2,3,6]
 | 8=>some [1,2,3,6,7]
 | 11=>some [1,2,3,6]
 | 18=>some [2,3,6,9,10]
 | 20=>some [2,3]
 | _=>none
def B5.Az.E:Env:=Abo (Bb B5.Az.Ba) (fun _=>false) B5.Az.hint B5.Az.live (wr1 129 (Agf tI .i64 Bk.A7.ts Bk.A7.pre Bk.A7.Aaj)) 0
section
variable (N M:Nat) (r c:Int) (l:List Int) (p6 p7 p3 p3_1:Int) (p3_3 p2_1:List Int) (p57:Int) (p10 p3_2 p2:List Int)
def B5.Az.C5:Option DV:=cutAt B5.Az.E N f64 (Ak f64) [1,1,1] [] ⟨Fo 92 [(1,.ptr 1 0 0),(2,.ptr 2 0 0),(3,.ptr 3 0 0),(6,.int .i64 p6)],[(3,false,.box [.int .i64 0,.int .i64 0,.nil]),(2,false,.box [.int .i64 0,.int .i64 0,.nil]),(1,false,.box [.int .i64 r,.int .i64 c,.ints .arg .u64 l])]⟩
def B5.Az.C8:Option DV:=cutAt B5.Az.E N f64 (Ak f64) [1,1,1,1,1,1,0] [] ⟨Fo 92 [(1,.ptr 1 0 0),(2,.ptr 2 0 0),(3,.ptr 3 0 0),(6,.int .i64 p6),(7,.int .u64 p7)],[(3,false,.box [.int .i64 p3,.int .i64 p3_1,.ints .fresh .u64 p3_2]),(2,false,.box [.int .i64 r,.int .i64 c,.ints .arg .u64 p2]),(1,false,.box [.int .i64 r,.int .i64 c,.ints .arg .u64 l])]⟩
def B5.Az.C11:Option DV:=cutAt B5.Az.E N f64 (Ak f64) [1,1,1,1,1,1,1] [] ⟨Fo 92 [(1,.ptr 1 0 0),(2,.ptr 2 0 0),(3,.ptr 3 0 0),(6,.int .i64 p6)],[(1,false,.box [.int .i64 r,.int .i64 c,.ints .arg .u64 l]),(3,false,.box [.int .i64 p3,.int .i64 p3_1,.ints .arg .u64 p3_3]),(2,false,.box [.int .i64 r,.int .i64 c,.ints .arg .u64 p2_1])]⟩
def B5.Az.L0:Option DV:=Cb B5.Az.E N f64 (Ak f64) [1,1,1,1,1,1,1,1,1,0,1,0] [] M ⟨Fo 92 [(2,.ptr 2 0 0),(3,.ptr 3 0 0),(6,.int .i64 p6),(9,.ptr 9 0 0),(10,.oref 100010),(56,.int .i64 c),(57,.int .i64 p57)],[(2,false,.box [.int .i64 r,.int .i64 c,.ints .arg .u64 p2_1]),(3,false,.box [.int .i64 p3,.int .i64 p3_1,.ints .arg .u64 p3_3]),(9,false,.box [.ints .fresh .u64 (Cf (toNat r) (toNat c) p2_1)]),(100010,false,.ints 3 .i64 p10)]⟩
def B5.Az.C18:Option DV:=cutAt B5.Az.E N f64 (Ak f64) [1,1,1,1,1,1,1,1,1,1] [] ⟨Fo 92 [(2,.ptr 2 0 0),(3,.ptr 3 0 0),(6,.int .i64 p6),(9,.ptr 9 0 0),(10,.oref 100010)],[(2,false,.box [.int .i64 r,.int .i64 c,.ints .arg .u64 p2_1]),(3,false,.box [.int .i64 p3,.int .i64 p3_1,.ints .arg .u64 p3_3]),(9,false,.box [.ints .fresh .u64 (Cf (toNat r) (toNat c) p2_1)]),(100010,false,.ints 3 .i64 p10)]⟩
def B5.Az.C20:Option DV:=cutAt B5.Az.E N f64 (Ak f64) [1,1,1,1,1,1,1,1,1,1,1,1,0] [] ⟨Fo 92 [(2,.ptr 2 0 0),(3,.ptr 3 0 0)],[(2,false,.box [.int .i64 r,.int .i64 c,.ints .arg .u64 (Bh (Cq (toNat r) (toNat c) p2_1 (E8 (Cf (toNat r) (toNat c) p2_1) p10)) p6)]),(3,false,.box [.int .i64 p3,.int .i64 p3_1,.ints .fresh .u64 (Cq (toNat p3) (toNat p3_1) p3_3 (E8 (Cf (toNat r) (toNat c) p2_1) p10))]),(9,false,.box [.ints .fresh .u64 (Cf (toNat r) (toNat c) p2_1)]),(100010,false,.ints 3 .i64 (E8 (Cf (toNat r) (toNat c) p2_1) p10))]⟩
theorem B5.Az.Aja:B5.Az.C5 N r c l p6=bif (B4 l&&B3 (length l≤1000∧-2300≤(Ab (0-p6))∧(Ab (0-p6))≤2300)) then bif (B4 (Bh l (Ab (0-p6)))&&B3 (length (Bh l (Ab (0-p6)))≤64)) then B5.Az.C8 N r c l p6 (B6 (Bh l (Ab (0-p6)))) ((Pf c).1) ((Pf c).2.1) ((Pf c).2.2.1) (Bh l (Ab (0-p6))) else none else none:=(Dk _ _ _ _ _ _ _).trans (by kernel_rfl)
theorem B5.Az.Aed:B5.Az.C8 N r c l p6 p7 p3 p3_1 p3_2 p2=bif (Dd p7 (-44:Int)) then bif ((A3 r c p2&&A3 p3 p3_1 p3_2)&&((Aj p2&&Aj p3_2)&&(Af (Bf p7 (-44:Int))&&B3 (p3=c∧p3_1=c)))) then bif (((Ee (toNat r) (toNat c) (Bf p7 (-44:Int)) 60 p2 p3_2).2.2) !=(0:Int)) then some (.tup [.agg [.int .i64 0,.int .i64 0,.nil],.agg [.int .i64 0,.int .i64 0,.nil],.nil,.int .i64 ((Ee (toNat r) (toNat c) (Bf p7 (-44:Int)) 60 p2 p3_2).2.2)]) else B5.Az.C11 N r c l p6 p3 p3_1 ((Ee (toNat r) (toNat c) (Bf p7 (-44:Int)) 60 p2 p3_2).2.1) ((Ee (toNat r) (toNat c) (Bf p7 (-44:Int)) 60 p2 p3_2).1) else none else none :=
 Eq.trans ((Dk _ _ _ _ _ _ _).trans (by kernel_rfl))
 (Cw (Ct _) (Cw (Ct _) rfl rfl) rfl)
theorem B5.Az.Vh:B5.Az.C11 N r c l p6 p3 p3_1 p3_3 p2_1=bif (A3 r c p2_1&&Aj p2_1) then B5.Az.L0 N N r c p6 p3 p3_1 p3_3 p2_1 0 [] else none:=(Dk _ _ _ _ _ _ _).trans (by kernel_rfl)
theorem B5.Az.Au:B5.Az.L0 N (M+1) r c p6 p3 p3_1 p3_3 p2_1 p57 p10=bif (Bi p57 c) then bif (decide ((length p10)+1≤G8)) then B5.Az.L0 N M r c p6 p3 p3_1 p3_3 p2_1 (Ab (p57+1)) (p10++[p57]) else none else B5.Az.C18 N r c p6 p3 p3_1 p3_3 p2_1 p10:=by kernel_rfl
theorem B5.Az.Ab7:B5.Az.C18 N r c p6 p3 p3_1 p3_3 p2_1 p10=bif (B4 (Cf (toNat r) (toNat c) p2_1)&&B3 (Jh (length (Cf (toNat r) (toNat c) p2_1)) p10=true∧length p10≤6)) then bif (A3 r c p2_1&&B3 (((length (E8 (Cf (toNat r) (toNat c) p2_1) p10):Nat):Int)=c∧Jh (toNat c) (E8 (Cf (toNat r) (toNat c) p2_1) p10)=true)) then bif (B4 (Cq (toNat r) (toNat c) p2_1 (E8 (Cf (toNat r) (toNat c) p2_1) p10))&&B3 (length (Cq (toNat r) (toNat c) p2_1 (E8 (Cf (toNat r) (toNat c) p2_1) p10))≤1000∧-2300≤p6∧p6≤2300)) then bif (A3 p3 p3_1 p3_3&&B3 (((length (E8 (Cf (toNat r) (toNat c) p2_1) p10):Nat):Int)=p3_1∧Jh (toNat p3_1) (E8 (Cf (toNat r) (toNat c) p2_1) p10)=true)) then B5.Az.C20 N r c p6 p3 p3_1 p3_3 p2_1 p10 else none else none else none else none :=
 Eq.trans ((Dk _ _ _ _ _ _ _).trans (by kernel_rfl))
 (E1 (Cw (Ct _) (Cw (Ct _) (Cw (Ct _) rfl rfl) rfl) rfl) rfl)
theorem B5.Az.Az5:B5.Az.C20 N r c p6 p3 p3_1 p3_3 p2_1 p10=bif (B4 (Bh (Cq (toNat r) (toNat c) p2_1 (E8 (Cf (toNat r) (toNat c) p2_1) p10)) p6)) then bif ((!(D2 (Bh (Cq (toNat r) (toNat c) p2_1 (E8 (Cf (toNat r) (toNat c) p2_1) p10)) p6)))||(B4 (Cq (toNat p3) (toNat p3_1) p3_3 (E8 (Cf (toNat r) (toNat c) p2_1) p10)))) then bif ((!(D2 (Bh (Cq (toNat r) (toNat c) p2_1 (E8 (Cf (toNat r) (toNat c) p2_1) p10)) p6)))||(!(D2 (Cq (toNat p3) (toNat p3_1) p3_3 (E8 (Cf (toNat r) (toNat c) p2_1) p10))))) then some (.tup [.agg [.int .i64 0,.int .i64 0,.nil],.agg [.int .i64 0,.int .i64 0,.nil],.nil,.int .i64 2]) else bif (A3 r c (Bh (Cq (toNat r) (toNat c) p2_1 (E8 (Cf (toNat r) (toNat c) p2_1) p10)) p6)&&Aj (Bh (Cq (toNat r) (toNat c) p2_1 (E8 (Cf (toNat r) (toNat c) p2_1) p10)) p6)) then some (.tup [.agg [.int .i64 r,.int .i64 c,.ints .arg .u64 (Bh (Cq (toNat r) (toNat c) p2_1 (E8 (Cf (toNat r) (toNat c) p2_1) p10)) p6)],.agg [.int .i64 p3,.int .i64 p3_1,.ints .fresh .u64 (Cq (toNat p3) (toNat p3_1) p3_3 (E8 (Cf (toNat r) (toNat c) p2_1) p10))],.ints .fresh .u64 (Cf (toNat r) (toNat c) (Bh (Cq (toNat r) (toNat c) p2_1 (E8 (Cf (toNat r) (toNat c) p2_1) p10)) p6)),.int .i64 0]) else none else none else none :=
 Eq.trans ((Dk _ _ _ _ _ _ _).trans (by kernel_rfl))
 (E1 (Ay (Un (D2 (Bh (Cq (toNat r) (toNat c) p2_1 (E8 (Cf (toNat r) (toNat c) p2_1) p10)) p6))) (Ay (Pz (D2 (Bh (Cq (toNat r) (toNat c) p2_1 (E8 (Cf (toNat r) (toNat c) p2_1) p10)) p6))) (Cw (Ang _ _) (Ay (Pz (D2 (Bh (Cq (toNat r) (toNat c) p2_1 (E8 (Cf (toNat r) (toNat c) p2_1) p10)) p6))) (Ay (Xc (D2 (Bh (Cq (toNat r) (toNat c) p2_1 (E8 (Cf (toNat r) (toNat c) p2_1) p10)) p6))) (Cw (Anh _ _) rfl (Cw (Ct _) rfl rfl)))) rfl))) rfl)
theorem B5.Az.ev:B0 B5.Az.E N f64 (Ak f64) [.agg [.int .i64 r,.int .i64 c,.ints .arg .u64 l]]=bif (Aj l) then bif ((Cj r c l) !=(0:Int)) then some (.tup [.agg [.int .i64 0,.int .i64 0,.nil],.agg [.int .i64 0,.int .i64 0,.nil],.nil,.int .i64 (Cj r c l)]) else bif (B4 l) then bif (Af (Bw l)) then B5.Az.C5 N r c l (Ck (Bw l)) else none else none else none:=by kernel_rfl
end
abbrev _root_.Go.Proofs.S1.B5.Az.Kn:=A8 prog 64 B5.Az.spec
theorem B5.Az.Ad (hk:A1 prog B5.Az.Ba) (hw:Bk.A7.Kn) (h:Hyp B5.Az.E f64 B5.Az.ts B5.Az.pre B5.Az.out):B5.Az.Kn :=
 Al (Zq hk (Aje hw) _ _ _ _) func64 (by kernel_rfl) (by kernel_rfl) h
end EqSvd
open EqSvd
theorem Lp:Af (4607182418800017408:Int)=true:=Ae9
theorem Agl (N:Nat) (r c:Int) (l:List Int) {t:Int} (ht:Af t=true):B5.Cr.C15 N r c l t=some (.agg [.int .u64 (Mz t),.int .u64 (Lz t),.bool false]):=by
 have h1:Af (Dm (4607182418800017408:Int) (Ca t t))=true:=Nt Lp (Eu _ _)
 rw [B5.Cr.Alh,ht,A4w,A4q,Lp,Eu,A4w,A4q,h1,A4q,Q4 h1,A4w,A4q,Ji,A4w,A4q]
 rfl
theorem Aqv (N:Nat) (r c:Int) (l:List Int) {z:Int} (hz:Af z=true):B5.Cr.C11 N r c l z=some (.agg [.int .u64 (Mz (G0 z)),.int .u64 (Lz (G0 z)),.bool false]):=by
 have h1:Af (Dm (4607182418800017408:Int) (Ca z z))=true:=Nt Lp (Eu _ _)
 have h2:=Q4 h1
 have h3:Af (Dm (Gj z) (Ea (Dm (4607182418800017408:Int) (Ca z z))))=true:=Nt (Ns z) h2
 rw [B5.Cr.Vh,hz,A4w,A4q,Lp,Eu,A4w,A4q,h1,A4q,B5.Cr.Ab8,hz,A4q,Ns,h2,A4w,A4q,Lp,h3,A4w,A4q,B5.Cr.Az9,hz,A4q,Ji,A4q]
 have e:G0 z=bif Eb z then Da (Es (4607182418800017408:Int) (Dm (Gj z) (Ea (Dm (4607182418800017408:Int) (Ca z z))))) else Es (4607182418800017408:Int) (Dm (Gj z) (Ea (Dm (4607182418800017408:Int) (Ca z z)))):=by
  unfold G0 Aen V8
  cases Eb z<;>rfl
 rw [e]
 cases Eb z with
 | true=>rw [A4q,A4q]; exact Agl N r c l (Oz (Ji _ _))
 | false=>rw [A4u,A4u]; exact Agl N r c l (Ji _ _)
theorem U3 {x y:List Int} (hx:Aj x=true) (hy:Aj y=true) (h:x.length=y.length) (h6:x.length≤6):((O5 x y&&Aj x)&&Aj y)=true:=by
 unfold O5
 rw [A4r h,A4r (by omega),hx,hy]; rfl
theorem Akf {x:List Int} (hx:Aj x=true) (h6:x.length≤6):(B4 x&&B3 (length x≤64))=true:=Ac.2 ⟨Gi hx (by omega),Aq.2 (by omega)⟩
theorem Au5 (N:Nat) (r c:Int) (l:List Int) {b:Int} (hb:Af b=true) {x y:List Int} (hx:Aj x=true) (hy:Aj y=true) (h:x.length=y.length) (h6:x.length≤6) :
 B5.Cr.C2 N r c l b x y=some (.agg [.int .u64 (trC x y b),.int .u64 (trS x y b),.bool (W9 x y b)]):=by
 have f:=U3 hx hy h h6
 have sc:Dd (Ca (B6 x) (B6 y)) (-44:Int)=true:=Ac.2 ⟨Eu _ _,Aq.2 (by decide)⟩
 have eb:(((!(decide (G7 b (B6 x)<0)))||(!(decide (G7 b (B6 y)<0))))||(!(decide (G7 (Bf (Ca (B6 x) (B6 y)) (-44:Int)) (Gj (Ik x y))<0))))=W9 x y b:=rfl
 rw [B5.Cr.Ajb,Akf hx h6,A4q,Akf hy (by omega),A4q,f,A4q,B5.Cr.Aja,Ks,Ks,A4w,A4q,sc,A4q,hb,A4w,A4q,A52,A4q,Hg,A52,A4q,Ha (Eu _ _),Ns,A4w,A52,A4q,eb]
 unfold trC trS
 cases W9 x y b with
 | true=>rw [A4q]; rfl
 | false =>
   rw [A4u,B5.Cr.Aed,U3 hx hx rfl h6,A4q,U3 hy hy rfl (by omega),A4q,Hg,Hg,A4w,A4q,Hg,A4w,A4q,Q3 (Hg _ _) (Hg _ _),Nt (Hg _ _) (Hg _ _),A4w,A4q]
   exact Aqv N r c l (Ji _ _)
theorem B5.Cr.known:B5.Cr.Kn:=B5.Cr.Ad (.cons compare.Hn.known (.cons compare.K3.known (.cons Aa.D3.known (.cons soft.Dn.known (.cons soft.Sign.known (.cons Ae.Add.known (.cons Ae.Div.known (.cons Ae.Iv.known (.cons Ae.Mul.known (.cons Ae.Norm.known (.cons Ae.Br.known (.cons Ae.Sqrt.known (.cons Ae.Sub.known .nil))))))))))))) fun r c l i k b hp=>by
 obtain ⟨hr,hp⟩:=Ac.1 (show (A3 r c l&&(Aj l&&(Af b&&B3 (0≤i∧i<c∧0≤k∧k<c))))=true from hp)
 obtain ⟨al,hp⟩:=Ac.1 hp
 obtain ⟨hb,hp⟩:=Ac.1 hp
 obtain ⟨i0,i1,k0,k1⟩:=Aq.1 hp
 obtain ⟨R,C,rfl,rfl,r6,c6,hl⟩:=Cu hr
 obtain ⟨i,rfl⟩:∃ j:Nat,i=j:=⟨i.toNat,by omega⟩
 obtain ⟨k,rfl⟩:∃ j:Nat,k=j:=⟨k.toNat,by omega⟩
 have z:B3 (0≤(0:Int)∧(0:Int)≤(R:Int))=true:=Aq.2 ⟨Int.le_refl _,by omega⟩
 have cp:∀ j:Nat,(j:Int)<(C:Int)→Hh (R:Int) (C:Int) l (j:Int)=true:=fun j hj=>Ac.2 ⟨hr,Aq.2 (by omega)⟩
 refine ⟨0,.agg [.int .u64 (trC (Ey R C l i) (Ey R C l k) b),.int .u64 (trS (Ey R C l i) (Ey R C l k) b),.bool (W9 (Ey R C l i) (Ey R C l k) b)],[],?_,Wk.Hc (.cons .int (.cons .int (.cons .bool .nil)))⟩
 rw [B5.Cr.ev,cp i i1,z,A4w,A4q,cp k k1,A4w,A4q,show toNat ((R:Int)-(0:Int))=R by omega]
 exact Au5 0 _ _ _ hb (Ot al) (Ot al) (by rw [Fs,Fs]) (by rw [Fs]; exact r6)
section
variable {R C:Nat} {b:Int} (r6:R≤6) (c6:C≤6) (hb:Af b=true) (N:Nat)
include r6 c6 hb
theorem An6 {M0 M1:Nat} {p:Nat} {p13:Int}:∀ (d q F:Nat) (s:List Int × List Int × Bool),q+d=C→d<F→p<q→H5 R C s →
 B5.rounds.L2 N M0 M1 F (R:Int) (C:Int) (C:Int) (C:Int) b (q:Int) s.2.2 s.1 s.2.1 (p:Int) (p:Int) p13 =
  B5.rounds.L1 N M0 M1 (R:Int) (C:Int) (C:Int) (C:Int) b (((p+1:Nat):Int)) (Pd W9 R C b p d q s).2.2 (Pd W9 R C b p d q s).1 (Pd W9 R C b p d q s).2.1 p13:=by
 intro d
 induction d with
 | zero =>
   intro q F s hq hF hpq hs
   obtain ⟨F,rfl⟩:∃ G,F=G+1:=⟨F-1,by omega⟩
   rw [B5.rounds.Kv,Av,A4v (by omega),A4u,An (by omega) (by omega)]
   rfl
 | succ d ih =>
   intro q F s hq hF hpq hs
   obtain ⟨F,rfl⟩:∃ G,F=G+1:=⟨F-1,by omega⟩
   have hr:=Ew r6 c6 hs.1.1
   have hv:=Ew c6 c6 hs.2.1
   have t1:(A3 (R:Int) (C:Int) s.1&&(Aj s.1&&(Af b&&B3 (0≤(p:Int)∧(p:Int)<(C:Int)∧0≤(q:Int)∧(q:Int)<(C:Int)))))=true :=
    Ac.2 ⟨hr,Ac.2 ⟨hs.1.2,Ac.2 ⟨hb,Aq.2 (by omega)⟩⟩⟩
   have cq:B3 (0≤(p:Int)∧(p:Int)<(C:Int)∧0≤(q:Int)∧(q:Int)<(C:Int)∧(p:Int)≠(q:Int))=true:=Aq.2 (by omega)
   have hn:=ih (q+1) F (Go.Rnd.Mw W9 R C b p q s) (by omega) (by omega) (by omega) hs.Mw
   rw [B5.rounds.Kv,Av,A4r (by omega),A4q,t1,A4q]
   simp only [A4s]
   rw [An (by omega) (by omega)]
   show _=B5.rounds.L1 N M0 M1 (R:Int) (C:Int) (C:Int) (C:Int) b (((p+1:Nat):Int)) (Pd W9 R C b p d (q+1) (Go.Rnd.Mw W9 R C b p q s)).2.2 (Pd W9 R C b p d (q+1) (Go.Rnd.Mw W9 R C b p q s)).1 (Pd W9 R C b p d (q+1) (Go.Rnd.Mw W9 R C b p q s)).2.1 p13
   rw [← hn]
   unfold Go.Rnd.Mw
   cases hbe:W9 (Ey R C s.1 p) (Ey R C s.1 q) b with
   | true=>rw [A4q,A5d rfl]; rfl
   | false =>
     have iS:Af (trS (Ey R C s.1 p) (Ey R C s.1 q) b)=true:=by unfold trS; rw [hbe]; exact Eu _ _
     have iC:Af (trC (Ey R C s.1 p) (Ey R C s.1 q) b)=true:=by unfold trC; rw [hbe]; exact Ji _ _
     rw [A4u,iS,A4q,hr,hs.1.2,iC,Oz iS,cq,A4w,A4w,A4w,A4w,A4q,A4q,hv,hs.2.2,A4w,A4w,A4q,A5c (by decide)]
     have eC:trC (Ey R C s.1 p) (Ey R C s.1 q) b=Mz (G0 (Iz (Ey R C s.1 p) (Ey R C s.1 q))):=by unfold trC; rw [hbe]; rfl
     have eS:trS (Ey R C s.1 p) (Ey R C s.1 q) b=Lz (G0 (Iz (Ey R C s.1 p) (Ey R C s.1 q))):=by unfold trS; rw [hbe]; rfl
     rw [eC,eS]
     rfl
theorem An7 {M0:Nat} {p13:Int} (hN:6<N):∀ (d p F:Nat) (s:List Int × List Int × Bool),p+d=C→d<F→H5 R C s →
 B5.rounds.L1 N M0 F (R:Int) (C:Int) (C:Int) (C:Int) b (p:Int) s.2.2 s.1 s.2.1 p13 =
  bif (Go.Rnd.M6 W9 R C b d p s).2.2 then some (.tup [.agg [.int .i64 (R:Int),.int .i64 (C:Int),.ints .arg .u64 (Go.Rnd.M6 W9 R C b d p s).1],.agg [.int .i64 (C:Int),.int .i64 (C:Int),.ints .arg .u64 (Go.Rnd.M6 W9 R C b d p s).2.1],.int .i64 (0:Int)])
  else B5.rounds.L0 N M0 (R:Int) (C:Int) (C:Int) (C:Int) b (Ab (p13+(1:Int))) (Go.Rnd.M6 W9 R C b d p s).1 (Go.Rnd.M6 W9 R C b d p s).2.1:=by
 intro d
 induction d with
 | zero =>
   intro p F s hp hF hs
   obtain ⟨F,rfl⟩:∃ G,F=G+1:=⟨F-1,by omega⟩
   rw [B5.rounds.Ch,Av,A4v (by omega),A4u]
   rfl
 | succ d ih =>
   intro p F s hp hF hs
   obtain ⟨F,rfl⟩:∃ G,F=G+1:=⟨F-1,by omega⟩
   have h2:=An6 r6 c6 hb N (M0:=M0) (M1:=F) (p:=p) (p13:=p13) (C-(p+1)) (p+1) N s (by omega) (by omega) (by omega) hs
   rw [B5.rounds.Ch,Av,A4r (by omega),A4q,An (by omega) (by omega)]
   refine h2.trans ?_
   exact ih (p+1) F (Pd W9 R C b p (C-(p+1)) (p+1) s) (by omega) (by omega) (H5.Pd _ _ hs)
theorem An8 (hN:6<N):∀ (m F:Nat) (w v:List Int),m≤60→m<F→H5 R C (w,v,true) →
 B5.rounds.L0 N F (R:Int) (C:Int) (C:Int) (C:Int) b ((60-m:Nat):Int) w v =
  some (.tup [.agg [.int .i64 (R:Int),.int .i64 (C:Int),.ints .arg .u64 (Go.Rnd.Ee R C b m w v).1],.agg [.int .i64 (C:Int),.int .i64 (C:Int),.ints .arg .u64 (Go.Rnd.Ee R C b m w v).2.1],.int .i64 (Go.Rnd.Ee R C b m w v).2.2]):=by
 intro m
 induction m with
 | zero =>
   intro F w v hm hF hs
   obtain ⟨F,rfl⟩:∃ G,F=G+1:=⟨F-1,by omega⟩
   rw [B5.rounds.Au,Av,A4v (by omega),A4u]
   rfl
 | succ m ih =>
   intro F w v hm hF hs
   obtain ⟨F,rfl⟩:∃ G,F=G+1:=⟨F-1,by omega⟩
   have h1:=An7 r6 c6 hb N (M0:=F) (p13:=((60-(m+1):Nat):Int)) hN C 0 N (w,v,true) (by omega) (by omega) hs
   rw [B5.rounds.Au,Av,A4r (by omega),A4q]
   refine h1.trans ?_
   have g:H5 R C (Ju R C b w v):=H5.M6 C 0 hs
   show (bif (Ju R C b w v).2.2 then _ else _)=_
   unfold Go.Rnd.Ee
   cases he:(Ju R C b w v).2.2 with
   | true=>rw [A4q,A5d rfl]; rfl
   | false =>
     rw [A4u,A5c (by decide),An (by omega) (by omega),show (((60-(m+1):Nat):Int)+1)=((60-m:Nat):Int) by omega]
     exact ih F (Ju R C b w v).1 (Ju R C b w v).2.1 (by omega) (by omega) ⟨g.1,g.2⟩
end
theorem B5.rounds.known:B5.rounds.Kn:=B5.rounds.Ad (.cons Cx.Gz.known (.cons soft.Dn.known (.cons B5.Cr.known .nil))) fun r c l p q m b hp=>by
 obtain ⟨h1,hp⟩:=Ac.1 (show ((A3 r c l&&A3 p q m)&&((Aj l&&Aj m)&&(Af b&&B3 (p=c∧q=c))))=true from hp)
 obtain ⟨hr,hv⟩:=Ac.1 h1
 obtain ⟨h2,hp⟩:=Ac.1 hp
 obtain ⟨al,am⟩:=Ac.1 h2
 obtain ⟨hb,hp⟩:=Ac.1 hp
 obtain ⟨rfl,rfl⟩:=Aq.1 hp
 obtain ⟨R,C,rfl,rfl,r6,c6,hl⟩:=Cu hr
 have hm:m.length=C*C:=by
  obtain ⟨_,_,hm⟩:=G2.1 hv
  rw [← A5b] at hm; omega
 refine ⟨62,_,[],(B5.rounds.ev ..).trans (An8 r6 c6 hb 62 (by decide) 60 62 l m (by decide) (by decide) ⟨⟨hl,al⟩,hm,am⟩),?_⟩
 exact Wk.Hs (.cons (Wk.Hc (.cons .int (.cons .int (.cons .W1 .nil)))) (.cons (Wk.Hc (.cons .int (.cons .int (.cons .W1 .nil)))) (.cons .int .nil)))
open EqSvd
theorem Agy (N:Nat) {r c:Int} {x:List Int} {e:Int} (hx:B4 x=true) (hl:x.length≤1000) (he:-2300≤e∧e≤2300):∀ (k i F:Nat),i+k=x.length→k<F →
 B5.Be.L0 N F r c x e (i:Int) ((x.take i).map fun b=>Bf b e)=some (.agg [.int .i64 r,.int .i64 c,.ints (.own 106002 tB) .u64 (Bh x e)]):=by
 obtain ⟨_,hu⟩:=I4 hx
 intro k
 induction k with
 | zero =>
   intro i F hi hF
   obtain ⟨F,rfl⟩:∃ G,F=G+1:=⟨F-1,by omega⟩
   rw [B5.Be.Au,Av,A4v (by omega),A4u,List.take_of_length_le (by omega)]; rfl
 | succ k ih =>
   intro i F hi hF
   obtain ⟨F,rfl⟩:∃ G,F=G+1:=⟨F-1,by omega⟩
   rw [B5.Be.Au,Av,A4r (show (i:Int)<(x.length:Int) by omega),A4q,A4r (show (0:Int)≤(i:Int) by omega),A4w,A4q,A4s,
    show Dd (getD x i 0) e=true from Ac.2 ⟨hu i (by omega),Aq.2 he⟩,A4q,A4r (by rw [A5w,List.length_take]; unfold G8; omega),A4q,An (by omega) (by omega)]
   have:=ih (i+1) F (by omega) (by omega)
   rw [Uo (by omega)] at this
   exact this
theorem B5.Be.known:B5.Be.Kn:=B5.Be.Ad (.cons Ae.Br.known .nil) fun r c x k hp=>by
 obtain ⟨h1,h2⟩:=Ac.1 (show (B4 x&&B3 (length x≤1000∧-2300≤k∧k≤2300))=true from hp)
 have h2:=Aq.1 h2
 refine ⟨x.length+1,.agg [.int .i64 r,.int .i64 c,.ints (.own 106002 tB) .u64 (Bh x k)],[106002],?_,Wk.Hc (.cons .int (.cons .int (.cons (.dropA _ _ _ _ (List.mem_singleton.2 rfl)) .nil)))⟩
 rw [B5.Be.ev]
 exact Agy (x.length+1) h1 h2.1 h2.2 x.length 0 (x.length+1) (by omega) (by omega)
theorem Apf {R n i k:Nat} {f:Nat→Nat→Int} (hi:i<R) (hk:k<n):(B8 R n f).take (i*n+k+1)=(B8 R n f).take (i*n+k)++[f i k]:=by
 have h:i*n+k<(B8 R n f).length:=by rw [Cd]; exact Ig hi hk
 rw [List.take_succ_eq_append_getElem h]
 have:=Abe (r:=R) (c:=n) (f:=f) hi hk
 rw [A40,A47 h] at this
 exact congrArg _ (congrArg (fun z=>[z]) this)
section
variable {R C:Nat} {l x:List Int} (r6:R≤6) (c6:C≤6) (hl:l.length=R*C) (hx:x.length=C) (hin:Jh C x=true) (N:Nat)
include r6 c6 hl hx hin
theorem A2a {M0 i:Nat} (hi:i<R):∀ (d k F:Nat),k+d=C→d<F →
 B5.at.L1 N M0 F (R:Int) (C:Int) l x (i:Int) (i:Int) (k:Int) ((Cq R C l x).take (i*C+k))=B5.at.L0 N M0 (R:Int) (C:Int) l x (((i+1:Nat):Int)) ((Cq R C l x).take ((i+1)*C)):=by
 intro d
 induction d with
 | zero =>
   intro k F hk hF
   obtain ⟨F,rfl⟩:∃ G,F=G+1:=⟨F-1,by omega⟩
   obtain rfl:k=C:=by omega
   rw [B5.at.Ch,Av,A4v (by omega),A4u,An (by omega) (by omega),A5u,Nat.one_mul]
   rfl
 | succ d ih =>
   intro k F hk hF
   obtain ⟨F,rfl⟩:∃ G,F=G+1:=⟨F-1,by omega⟩
   have p:=Sp hin (j:=k) (by omega)
   obtain ⟨j,hj⟩:∃ j:Nat,x.getD k 0=j:=⟨(x.getD k 0).toNat,by omega⟩
   have hjC:j<C:=by omega
   obtain ⟨e1,b1⟩:=Uu r6 c6 hi hjC
   have hle:(List.take (i*C+k) (Cq R C l x)).length+1≤G8:=by
    rw [List.length_take]
    have:=Ig hi (show k<C by omega)
    have:R*C≤36:=A5m r6 c6
    unfold G8; omega
   have g:getD l (i*C+j) 0=D8 (C:Int) l (i:Int) (x.getD k 0):=by rw [hj]; unfold D8; rw [M3]
   rw [B5.at.Ch,Av,A4r (by omega),A4q,A4r (show (0:Int)≤(k:Int) by omega),A4w,A4q,show toNat ((k:Nat):Int)=k from A4s k,hj,e1,
    A4r (show (0:Int)≤((i*C+j:Nat):Int) by omega),A4r (show ((i*C+j:Nat):Int)<((l.length:Nat):Int) by rw [hl]; omega),A4w,A4q,A4r hle,A4q,A4s,g,An (by omega) (by omega)]
   have:=ih (k+1) F (by omega) (by omega)
   rw [← Nat.add_assoc] at this
   unfold Cq at this ⊢
   rw [Apf hi (show k<C by omega)] at this
   exact this
theorem A2b (hN:6<N):∀ (d i F:Nat),i+d=R→d<F →
 B5.at.L0 N F (R:Int) (C:Int) l x (i:Int) ((Cq R C l x).take (i*C))=some (.agg [.int .i64 (R:Int),.int .i64 (C:Int),.ints (.own 106002 tB) .u64 (Cq R C l x)]):=by
 intro d
 induction d with
 | zero =>
   intro i F hi hF
   obtain ⟨F,rfl⟩:∃ G,F=G+1:=⟨F-1,by omega⟩
   obtain rfl:i=R:=by omega
   rw [B5.at.Au,Av,A4v (by omega),A4u,List.take_of_length_le (by rw [F5]; omega)]
 | succ d ih =>
   intro i F hi hF
   obtain ⟨F,rfl⟩:∃ G,F=G+1:=⟨F-1,by omega⟩
   rw [B5.at.Au,Av,A4r (by omega),A4q]
   have:=A2a r6 c6 hl hx hin N (M0:=F) (i:=i) (by omega) C 0 N (by omega) (by omega)
   rw [A5y] at this
   exact this.trans (ih (i+1) F (by omega) (by omega))
end
theorem B5.at.known:B5.at.Kn:=B5.at.Ad .nil fun r c l x hp=>by
 obtain ⟨hr,hp⟩:=Ac.1 (show (A3 r c l&&B3 (((length x:Nat):Int)=c∧Jh (toNat c) x=true))=true from hp)
 obtain ⟨hx,hin⟩:=Aq.1 hp
 obtain ⟨R,C,rfl,rfl,r6,c6,hl⟩:=Cu hr
 rw [A4s] at hin
 refine ⟨8,.agg [.int .i64 (R:Int),.int .i64 (C:Int),.ints (.own 106002 tB) .u64 (Cq R C l x)],[106002],?_,R7 (List.mem_singleton.2 rfl)⟩
 rw [B5.at.ev]
 have:=A2b r6 c6 hl (by omega) hin 8 (by decide) R 0 8 (by omega) (by omega)
 rw [Nat.zero_mul,List.take_zero] at this
 exact this
theorem Akg {R C:Nat} {l:List Int} (r6:R≤6) (c6:C≤6) (hr:A3 (R:Int) (C:Int) l=true) (al:Aj l=true) (N:Nat):∀ (d k F:Nat),k+d=C→d<F →
 B5.Gd.L0 N F (R:Int) (C:Int) l (k:Int) ((List.range k).map fun c=>B6 (Ey R C l c))=some (.ints (.own 100003 tB) .u64 (Cf R C l)):=by
 intro d
 induction d with
 | zero =>
   intro k F hk hF
   obtain ⟨F,rfl⟩:∃ G,F=G+1:=⟨F-1,by omega⟩
   obtain rfl:k=C:=by omega
   rw [B5.Gd.Au,Av,A4v (by omega),A4u]
   rfl
 | succ d ih =>
   intro k F hk hF
   obtain ⟨F,rfl⟩:∃ G,F=G+1:=⟨F-1,by omega⟩
   have cp:(Hh (R:Int) (C:Int) l (k:Int)&&B3 (0≤(0:Int)∧(0:Int)≤(R:Int)))=true:=Ac.2 ⟨Ac.2 ⟨hr,Aq.2 (by omega)⟩,Aq.2 (by omega)⟩
   have ln:(Cn (C:Int) l (k:Int) 0 R).length≤6:=by rw [Fs]; exact r6
   rw [B5.Gd.Au,Av,A4r (by omega),A4q,cp,A4q,show toNat ((R:Int)-(0:Int))=R by omega,Akf (Ot al) ln,A4q,A4r (by rw [A5w,A5t]; unfold G8; omega),A4q,An (by omega) (by omega)]
   have:=ih (k+1) F (by omega) (by omega)
   rw [List.range_succ,List.map_append] at this
   exact this
theorem B5.Gd.known:B5.Gd.Kn:=B5.Gd.Ad (.cons Aa.D3.known (.cons Ae.Norm.known .nil)) fun r c l hp=>by
 obtain ⟨hr,al⟩:=Ac.1 (show (A3 r c l&&Aj l)=true from hp)
 obtain ⟨R,C,rfl,rfl,r6,c6,hl⟩:=Cu hr
 exact ⟨8,.ints (.own 100003 tB) .u64 (Cf R C l),[100003],(B5.Gd.ev ..).trans (Akg r6 c6 hr al 8 C 0 8 (by omega) (by omega)),.drop _ _ _ _ (List.mem_singleton.2 rfl)⟩
theorem Ajh {drops:List Nat} {e:Int}:Wk drops (.tup [.agg [.int .i64 (0:Int),.int .i64 (0:Int),.nil],.agg [.int .i64 (0:Int),.int .i64 (0:Int),.nil],.nil,.int .i64 e])
 (.tup [.agg [.int .i64 (0:Int),.int .i64 (0:Int),.ints .arg .u64 []],.agg [.int .i64 (0:Int),.int .i64 (0:Int),.ints .fresh .u64 []],.ints .fresh .u64 [],.int .i64 e]) :=
 Wk.Hs (.cons (Wk.Hc (.cons .int (.cons .int (.cons (.nil _ _) .nil)))) (.cons (Wk.Hc (.cons .int (.cons .int (.cons (.nil _ _) .nil)))) (.cons (.nil _ _) (.cons .int .nil))))
theorem Ajk {r c:Int} {l:List Int} {e:Int} (h:Jn r c l=e) (he:e≠0):B5.Az.out [.i r,.i c,.l l] =
 .tup [.agg [.int .i64 (0:Int),.int .i64 (0:Int),.ints .arg .u64 []],.agg [.int .i64 (0:Int),.int .i64 (0:Int),.ints .fresh .u64 []],.ints .fresh .u64 [],.int .i64 e]:=by
 show DV.tup [.agg [.int .i64 (F9 r c l).1,.int .i64 (F9 r c l).2.1,.ints .arg .u64 (F9 r c l).2.2.1],.agg [.int .i64 (Gt r c l).1,.int .i64 (Gt r c l).2.1,.ints .fresh .u64 (Gt r c l).2.2.1],.ints .fresh .u64 (Xa r c l),.int .i64 (Jn r c l)]=_
 unfold F9 Gt Xa
 rw [h,A5d he,A5d he,A5d he]
 rfl
theorem Aut {R C:Nat} {l:List Int} (h:Jn (R:Int) (C:Int) l=0):B5.Az.out [.i (R:Int),.i (C:Int),.l l] =
 .tup [.agg [.int .i64 (R:Int),.int .i64 (C:Int),.ints .arg .u64 (L6 R C l)],.agg [.int .i64 (C:Int),.int .i64 (C:Int),.ints .fresh .u64 (Nx R C l)],.ints .fresh .u64 (Cf R C (L6 R C l)),.int .i64 0]:=by
 show DV.tup [.agg [.int .i64 (F9 (R:Int) (C:Int) l).1,.int .i64 (F9 (R:Int) (C:Int) l).2.1,.ints .arg .u64 (F9 (R:Int) (C:Int) l).2.2.1],.agg [.int .i64 (Gt (R:Int) (C:Int) l).1,.int .i64 (Gt (R:Int) (C:Int) l).2.1,.ints .fresh .u64 (Gt (R:Int) (C:Int) l).2.2.1],.ints .fresh .u64 (Xa (R:Int) (C:Int) l),.int .i64 (Jn (R:Int) (C:Int) l)]=_
 unfold F9 Gt Xa
 rw [h,A5c (by decide),A5c (by decide),A5c (by decide)]
 rfl
section
variable {R C:Nat} {l:List Int} (r6:R≤6) (c6:C≤6) (hl:l.length=R*C) (al:Aj l=true) (N:Nat)
include r6 c6 hl al
omit r6 c6 in
theorem Q1:H5 R C (Bh l (-(Ga l)),Ni C,true):=⟨⟨by rw [Kw]; exact hl,Xg al⟩,(show (Ni C).length=C*C from Cd _ _ _),(show Aj (Ni C)=true from I9 fun i k=>Awu _ _)⟩
theorem Auv (hc:Cj (R:Int) (C:Int) l=0) (he:(Eg R C l).2.2=0) :
 B5.Az.C20 N (R:Int) (C:Int) (Ga l) (C:Int) (C:Int) (Eg R C l).2.1 (Eg R C l).1 (Le C)=some (.tup [.agg [.int .i64 (R:Int),.int .i64 (C:Int),.ints .arg .u64 (L6 R C l)],.agg [.int .i64 (C:Int),.int .i64 (C:Int),.ints .fresh .u64 (Nx R C l)],.ints .fresh .u64 (Cf R C (L6 R C l)),.int .i64 0])∧Jn (R:Int) (C:Int) l=0 ∨
 B5.Az.C20 N (R:Int) (C:Int) (Ga l) (C:Int) (C:Int) (Eg R C l).2.1 (Eg R C l).1 (Le C)=some (.tup [.agg [.int .i64 (0:Int),.int .i64 (0:Int),.nil],.agg [.int .i64 (0:Int),.int .i64 (0:Int),.nil],.nil,.int .i64 2])∧Jn (R:Int) (C:Int) l=2:=by
 have hi:H5 R C ((Eg R C l).1,(Eg R C l).2.1,true):=H5.Ee 60 (Q1 hl al)
 have rc:R*C≤36:=A5m r6 c6
 have cc:C*C≤36:=A5m c6 c6
 have hW:Aj (L6 R C l)=true:=Xg (K2 hi.1.2)
 have hV:Aj (Nx R C l)=true:=K2 hi.2.2
 have lW:(L6 R C l).length=R*C:=by unfold L6; rw [Kw,F5]
 have lV:(Nx R C l).length=C*C:=F5 ..
 have oW:B4 (L6 R C l)=true:=Gi hW (by omega)
 have oV:B4 (Nx R C l)=true:=Gi hV (by omega)
 have eE:Jn (R:Int) (C:Int) l=if (D2 (L6 R C l)&&D2 (Nx R C l))=true then 0 else 2:=by
  unfold Jn
  rw [A5c (by rw [hc]; decide),A4s,A4s,A5c (by rw [he]; decide)]
 rw [B5.Az.Az5]
 simp only [A4s]
 show (_∨_)
 rw [show Bh (Cq R C (Eg R C l).1 (E8 (Cf R C (Eg R C l).1) (Le C))) (Ga l)=L6 R C l from rfl,show Cq C C (Eg R C l).2.1 (E8 (Cf R C (Eg R C l).1) (Le C))=Nx R C l from rfl,oW,oV,A52,A4q,A4q,Ew r6 c6 lW,hW,A4w,A4q,eE]
 cases D2 (L6 R C l) with
 | true =>
   cases D2 (Nx R C l) with
   | true=>exact .inl ⟨rfl,rfl⟩
   | false=>exact .inr ⟨rfl,rfl⟩
 | false=>exact .inr ⟨rfl,rfl⟩
omit r6 al in
theorem Ajj (p6 p3 p3_1:Int) (v w:List Int):∀ (d k F:Nat),k+d=C→d<F →
 B5.Az.L0 N F (R:Int) (C:Int) p6 p3 p3_1 v w (k:Int) (Le k)=B5.Az.C18 N (R:Int) (C:Int) p6 p3 p3_1 v w (Le C):=by
 intro d
 induction d with
 | zero =>
   intro k F hk hF
   obtain ⟨F,rfl⟩:∃ G,F=G+1:=⟨F-1,by omega⟩
   obtain rfl:k=C:=by omega
   rw [B5.Az.Au,Av,A4v (by omega),A4u]
 | succ d ih =>
   intro k F hk hF
   obtain ⟨F,rfl⟩:∃ G,F=G+1:=⟨F-1,by omega⟩
   rw [B5.Az.Au,Av,A4r (by omega),A4q,A4r (by rw [Qh]; unfold G8; omega),A4q,An (by omega) (by omega)]
   have:=ih (k+1) F (by omega) (by omega)
   unfold Le at this ⊢
   rw [List.range_succ,List.map_append] at this
   exact this
theorem Auw :
 B5.Az.C18 N (R:Int) (C:Int) (Ga l) (C:Int) (C:Int) (Eg R C l).2.1 (Eg R C l).1 (Le C)=B5.Az.C20 N (R:Int) (C:Int) (Ga l) (C:Int) (C:Int) (Eg R C l).2.1 (Eg R C l).1 (Le C):=by
 have hi:H5 R C ((Eg R C l).1,(Eg R C l).2.1,true):=H5.Ee 60 (Q1 hl al)
 have rc:R*C≤36:=A5m r6 c6
 have ek:=U6 (Bw l)
 have n1:(B4 (Cf R C (Eg R C l).1)&&B3 (Jh (length (Cf R C (Eg R C l).1)) (Le C)=true∧length (Le C)≤6))=true :=
  Ac.2 ⟨Gi (Adf ..) (by rw [Uv]; omega),Aq.2 ⟨by rw [Uv]; exact Zi C,by rw [Qh]; exact c6⟩⟩
 have ps:B3 (((length (E8 (Cf R C (Eg R C l).1) (Le C)):Nat):Int)=(C:Int)∧Jh C (E8 (Cf R C (Eg R C l).1) (Le C))=true)=true :=
  Aq.2 ⟨by rw [Ac2,Qh],Aq7 (Zi C)⟩
 have og:(B4 (Cq R C (Eg R C l).1 (E8 (Cf R C (Eg R C l).1) (Le C)))&&B3 (length (Cq R C (Eg R C l).1 (E8 (Cf R C (Eg R C l).1) (Le C)))≤1000∧-2300≤Ga l∧Ga l≤2300))=true :=
  Ac.2 ⟨Gi (K2 hi.1.2) (by rw [F5]; omega),Aq.2 ⟨by rw [F5]; omega,by unfold Ga; omega,by unfold Ga; omega⟩⟩
 rw [B5.Az.Ab7]
 simp only [A4s]
 rw [n1,A4q,Ew r6 c6 hi.1.1,ps,A4w,A4q,og,A4q,Ew c6 c6 hi.2.1,A4w,A4q]
end
theorem B5.Az.known:B5.Az.Kn:=B5.Az.Ad (.cons Cz.Check.known (.cons compare.Lh.known (.cons Aa.Ff.known (.cons B5.at.known (.cons B5.Gd.known (.cons B5.rounds.known (.cons B5.Be.known (.cons Ae.Bv.known (.cons Ae.Finite.known (.cons Ae.Norm.known (.cons Ae.Br.known .nil))))))))))) Bk.A7.known fun r c l hp=>by
 have al:Aj l=true:=hp
 by_cases hc:Cj r c l=0
 ·have hr:A3 r c l=true:=by
   unfold Cj at hc
   by_cases h:A3 r c l=true
   ·exact h
   ·rw [A5c h] at hc; cases hc
  obtain ⟨R,C,rfl,rfl,r6,c6,hl⟩:=Cu hr
  have rc:R*C≤36:=A5m r6 c6
  have ek:=U6 (Bw l)
  have hS:=Q1 hl al
  have ks:Ab ((0:Int)-Ck (Bw l))=-(Ga l):=by
   rw [An (by omega) (by omega)]; unfold Ga; omega
  have o1:B4 l=true:=Gi al (by omega)
  have c1:B3 (length l≤1000∧-2300≤-(Ga l)∧-(Ga l)≤2300)=true:=Aq.2 ⟨by omega,by unfold Ga; omega,by unfold Ga; omega⟩
  have o2:(B4 (Bh l (-(Ga l)))&&B3 (length (Bh l (-(Ga l)))≤64))=true:=Ac.2 ⟨Gi hS.1.2 (by rw [Kw]; omega),Aq.2 (by rw [Kw]; omega)⟩
  have sp:Dd (B6 (Bh l (-(Ga l)))) (-44:Int)=true:=Ac.2 ⟨Ks _,Aq.2 (by decide)⟩
  have big:B5.Az.C5 8 (R:Int) (C:Int) l (Ga l)=(bif ((Eg R C l).2.2 !=(0:Int)) then some (.tup [.agg [.int .i64 (0:Int),.int .i64 (0:Int),.nil],.agg [.int .i64 (0:Int),.int .i64 (0:Int),.nil],.nil,.int .i64 ((Eg R C l).2.2)])
   else B5.Az.C11 8 (R:Int) (C:Int) l (Ga l) (C:Int) (C:Int) (Eg R C l).2.1 (Eg R C l).1):=by
   have rr:=Ew r6 c6 hS.1.1
   have re:=Ew c6 c6 hS.2.1
   rw [B5.Az.Aja]
   rw [show Ab ((0:Int)-Ga l)=-(Ga l) from ks,o1,c1,A4w,A4q,o2,A4q,Afs c6,B5.Az.Aed,sp,A4q]
   simp only [A4s]
   rw [rr,re,hS.1.2,hS.2.2,Ha (Ks _),Aq.2 (show True∧True from ⟨trivial,trivial⟩),A4w,A4w,A4w,A4q]
   rfl
  have pre:B0 B5.Az.E 8 Tryz.f64 (Ak Tryz.f64) [.agg [.int .i64 (R:Int),.int .i64 (C:Int),.ints .arg .u64 l]]=B5.Az.C5 8 (R:Int) (C:Int) l (Ga l):=by
   rw [B5.Az.ev,al,A4q,hc,show ((0:Int) !=0)=false from rfl,A4u,o1,A4q,P5,A4q]
   rfl
  rcases Xj (R:=R) (n:=C) (low:=Bf (B6 (Bh l (-(Ga l)))) (-44)) 60 (Bh l (-(Ga l))) (Ni C) with he | he
  ·have he:(Eg R C l).2.2=0:=he
   have hi:H5 R C ((Eg R C l).1,(Eg R C l).2.1,true):=H5.Ee 60 hS
   have c20:=Auv r6 c6 hl al 8 hc he
   have chain:B0 B5.Az.E 8 Tryz.f64 (Ak Tryz.f64) [.agg [.int .i64 (R:Int),.int .i64 (C:Int),.ints .arg .u64 l]]=B5.Az.C20 8 (R:Int) (C:Int) (Ga l) (C:Int) (C:Int) (Eg R C l).2.1 (Eg R C l).1 (Le C):=by
    rw [pre,big,he,show ((0:Int) !=0)=false from rfl,A4u,B5.Az.Vh,Ew r6 c6 hi.1.1,hi.1.2,A4w,A4q]
    exact (Ajj c6 hl 8 (Ga l) (C:Int) (C:Int) (Eg R C l).2.1 (Eg R C l).1 C 0 8 (by omega) (by omega)).trans (Auw r6 c6 hl al 8)
   rcases c20 with ⟨h1,h2⟩ | ⟨h1,h2⟩
   ·exact ⟨8,_,[],chain.trans h1,by show Wk _ _ (B5.Az.out [.i (R:Int),.i (C:Int),.l l]); rw [Aut h2]; exact Wk.Hs (.cons (Wk.Hc (.cons .int (.cons .int (.cons .W1 .nil)))) (.cons Vi (.cons .O4 (.cons .int .nil))))⟩
   ·exact ⟨8,_,[],chain.trans h1,by show Wk _ _ (B5.Az.out [.i (R:Int),.i (C:Int),.l l]); rw [Ajk h2 (by decide)]; exact Ajh⟩
  ·have he:(Eg R C l).2.2=6:=he
   have hE:Jn (R:Int) (C:Int) l=6:=by
    unfold Jn
    rw [A5c (by rw [hc]; decide),A4s,A4s,A5d (by rw [he]; decide)]
   refine ⟨8,_,[],(pre.trans big).trans ?_,by show Wk _ _ (B5.Az.out [.i (R:Int),.i (C:Int),.l l]); rw [Ajk hE (by decide)]; exact Ajh⟩
   rw [he]; rfl
 ·have hE:Jn r c l=Cj r c l:=by unfold Jn; rw [A5d hc]
  refine ⟨8,_,[],?_,by show Wk _ _ (B5.Az.out [.i r,.i c,.l l]); rw [Ajk hE hc]; exact Ajh⟩
  rw [B5.Az.ev,al,A4q,show ((Cj r c l) !=(0:Int))=true from by simpa using hc,A4q]
open EqMat EqOf
namespace EqRef20
def Am.A9.own.Ba:List (Nat × Entry):=[]
def Am.A9.own.E:Env:=Bg (Bb Am.A9.own.Ba) (fun _=>false) (fun _=>none) (fun _=>none)
theorem Am.A9.own.ev (N:Nat) (a b:Int):B0 Am.A9.own.E N f53 (Ak f53) [.int .i64 a,.int .i64 b]=bif (((decide ((0:Int)≤(Ab (a*b))))&&(decide ((Ab (a*b))≤(Ab (a*b)))))&&(decide ((Ab (a*b))≤G8))) then some (.agg [.int .i64 a,.int .i64 b,.ints (.own 10 43) .u64 (List.replicate (toNat (Ab (a*b))) 0)]) else none:=by kernel_rfl
abbrev _root_.Go.Proofs.S1.Am.A9.own.Kn:=A8 prog 53 Am.A9.own.spec
theorem Am.A9.own.Ad (hk:A1 prog Am.A9.own.Ba) (h:Hyp Am.A9.own.E f53 Am.A9.own.ts Am.A9.own.pre Am.A9.own.out):Am.A9.own.Kn :=
 Al (A4 hk _ _ _) func53 (by kernel_rfl) (by kernel_rfl) h
def Am.Stack.Ba:List (Nat × Entry):=[]
def Am.Stack.E:Env:=Bg (Bb Am.Stack.Ba) (fun _=>false) (fun _=>none) (fun _=>none)
theorem Am.Stack.ev (N:Nat) (r c:Int) (l:List Int) (p q:Int) (m:List Int):B0 Am.Stack.E N f71 (Ak f71) [.agg [.int .i64 r,.int .i64 c,.ints .arg .u64 l],.agg [.int .i64 p,.int .i64 q,.ints .arg .u64 m]]=bif (decide (0+(length l)≤G8)) then bif (decide ((length ([]++l))+(length m)≤G8)) then some (.agg [.int .i64 (Ab (r+p)),.int .i64 c,.ints (.own 20 43) .u64 (([]++l)++m)]) else none else none :=
 Eq.trans (by kernel_rfl)
 (E1 (Cw (Ct _) rfl rfl) rfl)
abbrev _root_.Go.Proofs.S1.Am.Stack.Kn:=A8 prog 71 Am.Stack.spec
theorem Am.Stack.Ad (hk:A1 prog Am.Stack.Ba) (h:Hyp Am.Stack.E f71 Am.Stack.ts Am.Stack.pre Am.Stack.out):Am.Stack.Kn :=
 Al (A4 hk _ _ _) func71 (by kernel_rfl) (by kernel_rfl) h
end EqRef20
open EqOf EqRef20
theorem Am.A9.own.known:Am.A9.own.Kn:=Am.A9.own.Ad .nil fun a b hp=>by
 obtain ⟨ha,hb⟩:=Ac.1 (show (Bp a&&Bp b)=true from hp)
 obtain ⟨A,rfl,hA⟩:=Fj ha
 obtain ⟨B,rfl,hB⟩:=Fj hb
 have hm:=L7 (a:=(A:Int)) (b:=(B:Int)) (by omega) (by omega) (by omega) (by omega)
 have e:((A:Int)*(B:Int)).toNat=A*B:=by rw [← A5b,A4s]
 refine ⟨0,.agg [.int .i64 (A:Int),.int .i64 (B:Int),.ints (.own 10 tB) .u64 (B8 A B fun _ _=>0)],[],?_,Wk.Hc (.cons .int (.cons .int (.cons (.keep _ _ _ _ (List.not_mem_nil)) .nil)))⟩
 rw [Am.A9.own.ev,An (by omega) (by omega),A4r hm.1,A4r (Int.le_refl _),A4r (show (A:Int)*(B:Int)≤(G8:Int) by unfold G8; omega),e,Abf]
 rfl
theorem Am.Stack.known:Am.Stack.Kn:=Am.Stack.Ad .nil fun r c l p q m hp=>by
 obtain ⟨h1,h2⟩:=Ac.1 (show ((A3 r c l&&A3 p q m)&&decide (q=c))=true from hp)
 obtain ⟨hr,hm⟩:=Ac.1 h1
 obtain ⟨R,C,rfl,rfl,r6,c6,hl⟩:=Cu hr
 obtain ⟨P,Q,rfl,rfl,p6,q6,hl2⟩:=Cu hm
 have h36:=A5m r6 c6
 have h36':=A5m p6 q6
 refine ⟨0,.agg [.int .i64 ((R:Int)+(P:Int)),.int .i64 (C:Int),.ints (.own 20 tB) .u64 (l++m)],[20],?_,R7 (List.mem_singleton.2 rfl)⟩
 rw [Am.Stack.ev,List.nil_append,A4r (show 0+l.length≤G8 by unfold G8; omega),A4q,A4r (show l.length+m.length≤G8 by unfold G8; omega),A4q,An (by omega) (by omega)]
theorem Ajr {R P C:Nat} {l m:List Int} (hl:l.length=R*C) (hm:m.length=P*C) :
 (B8 (R+P) C fun (i k:Nat)=>Jr (R:Int) (C:Int) l (C:Int) m (i:Int) (k:Int))=l++m:=by
 have h:(l++m).length=(R+P)*C:=by rw [A5i,hl,hm,A5u]
 conv=>rhs; rw [← Ts h]
 refine D6 fun i k hi hk=>?_
 unfold Jr
 by_cases hlt:(i:Int)<(R:Int)
 ·have:=Ig (r:=R) (c:=C) (i:=i) (k:=k) (by omega) hk
  rw [A5d hlt,Tv,Tv,A40,A40,List.getElem?_append_left (by omega)]
 ·have es:(i:Int)-(R:Int)=((i-R:Nat):Int):=by omega
  have e2:i*C=R*C+(i-R)*C:=by rw [← A5u]; congr 1; omega
  rw [A5c hlt,es,Tv,Tv,A40,A40,A54 (by omega),hl,e2]
  congr 2; omega
namespace EqRef19
def Ao.F3.Ba:List (Nat × Entry):=[(19,Bq.Order.spec)]
def Ao.F3.E:Env:=Bg (Bb Ao.F3.Ba) (fun _=>false) (fun _=>none) (fun _=>none)
theorem Ao.F3.ev (N:Nat) (a b:Int):B0 Ao.F3.E N f158 (Ak f158) [.int .u64 a,.int .u64 b]=bif (Af a&&Af b) then some (.bool (bif (Nu a b) then (Bi 0 (G7 a b)) else false)) else none :=
 Eq.trans (by kernel_rfl)
 (E1 (Ay (R5 (Nu a b)) (Ay (Oo (Nu a b)) (Ay (W8 (Nu a b)) rfl))) rfl)
abbrev _root_.Go.Proofs.S1.Ao.F3.Kn:=A8 prog 158 Ao.F3.spec
theorem Ao.F3.Ad (hk:A1 prog Ao.F3.Ba) (h:Hyp Ao.F3.E f158 Ao.F3.ts Ao.F3.pre Ao.F3.out):Ao.F3.Kn :=
 Al (A4 hk _ _ _) func158 (by kernel_rfl) (by kernel_rfl) h
def Ao.be.Ba:List (Nat × Entry):=[(84,Bq.Hn.spec),(141,Ah.Iv.spec),(153,Ah.Mul.spec),(96,Ah.Norm.spec),(85,Ah.Br.spec),(158,Ao.F3.spec)]
def Ao.be.E:Env:=Bg (Bb Ao.be.Ba) (fun _=>false) (fun _=>none) (fun _=>none)
theorem Ao.be.ev (N:Nat) (x y:List Int) (b:Int):B0 Ao.be.E N f155 (Ak f155) [.ints .arg .u64 x,.ints .arg .u64 y,.int .u64 b]=bif (B4 x) then bif (B4 y) then bif (Af (B6 x)&&Af (B6 y)) then bif (Dd (Ca (B6 x) (B6 y)) (-44:Int)) then bif (Af (B6 x)&&Af b) then bif ((!(Fx (B6 x) b))||(Af (B6 y)&&Af b)) then bif (((!(Fx (B6 x) b))||(!(Fx (B6 y) b)))||((O5 x y&&Aj x)&&Aj y)) then bif (((!(Fx (B6 x) b))||(!(Fx (B6 y) b)))||(Af (Ik x y))) then bif (((!(Fx (B6 x) b))||(!(Fx (B6 y) b)))||(Af (Gj (Ik x y))&&Af (Bf (Ca (B6 x) (B6 y)) (-44:Int)))) then some (.bool (bif (bif (!(Fx (B6 x) b)) then true else (!(Fx (B6 y) b))) then true else (!(Fx (Gj (Ik x y)) (Bf (Ca (B6 x) (B6 y)) (-44:Int)))))) else none else none else none else none else none else none else none else none else none :=
 Eq.trans (by kernel_rfl)
 (E1 (E1 (E1 (E1 (E1 (Ay (Un (Fx (B6 x) b)) (Ay (Un (Fx (B6 x) b)) (Cw (Axw _ _) (Ay (Pz (Fx (B6 x) b)) (Ay (Xc (Fx (B6 x) b)) (Ay (Ago (Fx (B6 x) b) (Fx (B6 y) b)) (Ay (Ago (Fx (B6 x) b) (Fx (B6 y) b)) (Cw (Aqy _ _ _) (Cw (Axx _ _ _) (Ay (Ago (Fx (B6 x) b) (Fx (B6 y) b)) (Cw (Aqy _ _ _) (Ay (Anf (Fx (B6 x) b) (Fx (B6 y) b)) (Ay (Ayo (Fx (B6 x) b) (Fx (B6 y) b)) rfl)) rfl)) rfl) rfl))))) rfl))) rfl) rfl) rfl) rfl) rfl)
abbrev _root_.Go.Proofs.S1.Ao.be.Kn:=A8 prog 155 Ao.be.spec
theorem Ao.be.Ad (hk:A1 prog Ao.be.Ba) (h:Hyp Ao.be.E f155 Ao.be.ts Ao.be.pre Ao.be.out):Ao.be.Kn :=
 Al (A4 hk _ _ _) func155 (by kernel_rfl) (by kernel_rfl) h
def Ao.Cr.Ba:List (Nat × Entry):=[(86,A6.Dn.spec),(102,A6.Neg.spec),(84,Bq.Hn.spec),(152,Ah.Add.spec),(87,Ah.Div.spec),(141,Ah.Iv.spec),(153,Ah.Mul.spec),(154,Ah.Sqrt.spec),(198,Ah.Sub.spec)]
def Ao.Cr.live:Nat→Option (List Nat)
 | 2=>some [0,1,6]
 | 3=>some [7]
 | 4=>some [7,8]
 | 5=>some [7,9]
 | 7=>some [9]
 | _=>none
def Ao.Cr.E:Env:=Bg (Bb Ao.Cr.Ba) (fun _=>false) (fun _=>none) Ao.Cr.live
section
variable (N:Nat) (p9_1 p7 p9 p8:Int) (x y:List Int) (p6:Int)
def Ao.Cr.C2:Option DV:=cutAt Ao.Cr.E N f156 (Ak f156) [1,1] [] ⟨Fo 49 [(0,.ints .arg .u64 x),(1,.ints .arg .u64 y),(6,.int .u64 p6)],[]⟩
def Ao.Cr.C3:Option DV:=cutAt Ao.Cr.E N f156 (Ak f156) [1,1,1] [] ⟨Fo 49 [(7,.int .u64 p7)],[]⟩
def Ao.Cr.C4:Option DV:=cutAt Ao.Cr.E N f156 (Ak f156) [1,1,1,1] [] ⟨Fo 49 [(7,.int .u64 p7),(8,.int .u64 p8)],[]⟩
def Ao.Cr.C5:Option DV:=cutAt Ao.Cr.E N f156 (Ak f156) [1,1,1,1,1,0] [] ⟨Fo 49 [(7,.int .u64 p7),(9,.int .u64 p9)],[]⟩
def Ao.Cr.C7:Option DV:=cutAt Ao.Cr.E N f156 (Ak f156) [1,1,1,1,1,1] [] ⟨Fo 49 [(9,.int .u64 p9_1)],[]⟩
theorem Ao.Cr.Ajb:Ao.Cr.C2 N x y p6=bif ((O5 y y&&Aj y)&&Aj y) then bif ((O5 x x&&Aj x)&&Aj x) then bif (Af (Ik y y)&&Af (Ik x x)) then bif (Af p6&&Af p6) then bif (Af (Gb (Ik y y) (Ik x x))&&Af (Dm p6 p6)) then Ao.Cr.C3 N (Es (Gb (Ik y y) (Ik x x)) (Dm p6 p6)) else none else none else none else none else none:=(Dk _ _ _ _ _ _ _).trans (by kernel_rfl)
theorem Ao.Cr.A2h:Ao.Cr.C3 N p7=bif (Af p7&&Af p7) then bif (Af 4607182418800017408&&Af (Ca p7 p7)) then bif (Af (Dm 4607182418800017408 (Ca p7 p7))) then Ao.Cr.C4 N p7 (Ea (Dm 4607182418800017408 (Ca p7 p7))) else none else none else none:=(Dk _ _ _ _ _ _ _).trans (by kernel_rfl)
theorem Ao.Cr.Aum:Ao.Cr.C4 N p7 p8=bif (Af p7) then bif (Af (Gj p7)&&Af p8) then bif (Af 4607182418800017408&&Af (Dm (Gj p7) p8)) then Ao.Cr.C5 N p7 (Es 4607182418800017408 (Dm (Gj p7) p8)) else none else none else none:=(Dk _ _ _ _ _ _ _).trans (by kernel_rfl)
theorem Ao.Cr.Aja:Ao.Cr.C5 N p7 p9=bif (Af p7) then bif (Eb p7) then bif (Af p9) then Ao.Cr.C7 N (Da p9) else none else Ao.Cr.C7 N p9 else none:=(Dk _ _ _ _ _ _ _).trans (by kernel_rfl)
theorem Ao.Cr.Y4:Ao.Cr.C7 N p9_1=bif (Af p9_1&&Af p9_1) then bif (Af 4607182418800017408&&Af (Ca p9_1 p9_1)) then bif (Af (Dm 4607182418800017408 (Ca p9_1 p9_1))) then bif (Af 4607182418800017408&&Af (Ea (Dm 4607182418800017408 (Ca p9_1 p9_1)))) then bif (Af (Es 4607182418800017408 (Ea (Dm 4607182418800017408 (Ca p9_1 p9_1))))&&Af p9_1) then some (.tup [.int .u64 (Es 4607182418800017408 (Ea (Dm 4607182418800017408 (Ca p9_1 p9_1)))),.int .u64 (Ca (Es 4607182418800017408 (Ea (Dm 4607182418800017408 (Ca p9_1 p9_1)))) p9_1)]) else none else none else none else none else none:=(Dk _ _ _ _ _ _ _).trans (by kernel_rfl)
theorem Ao.Cr.ev:B0 Ao.Cr.E N f156 (Ak f156) [.ints .arg .u64 x,.ints .arg .u64 y]=bif ((O5 x y&&Aj x)&&Aj y) then Ao.Cr.C2 N x y (Ik x y) else none:=by kernel_rfl
end
abbrev _root_.Go.Proofs.S1.Ao.Cr.Kn:=A8 prog 156 Ao.Cr.spec
theorem Ao.Cr.Ad (hk:A1 prog Ao.Cr.Ba) (h:Hyp Ao.Cr.E f156 Ao.Cr.ts Ao.Cr.pre Ao.Cr.out):Ao.Cr.Kn :=
 Al (A4 hk _ _ _) func156 (by kernel_rfl) (by kernel_rfl) h
def Ao.round.hint:Nat→Option Bc
 | 0=>some { keep:=[2,3,4,6,7,9,10],objs:=[],boxes:=[3,4,6,7] }
 | 2=>some { keep:=[2,3,4,6,7,9,10,11],objs:=[],boxes:=[3,4,6,7] }
 | _=>none
def Ao.round.Ba:List (Nat × Entry):=[(86,A6.Dn.spec),(22,Am.Ru.spec),(157,D0.Gz.spec),(155,Ao.be.spec),(156,Ao.Cr.spec)]
def Ao.round.E:Env:=Bg (Bb Ao.round.Ba) (fun _=>false) Ao.round.hint (fun _=>none)
section
variable (N M0 M:Nat) (r c:Int) (l:List Int) (p q:Int) (m:List Int) (b p11:Int) (p9:Bool) (p3 p4:List Int) (p10_1 p10:Int) (p9_1:Bool) (p3_1 p4_1:List Int)
def Ao.round.L0:Option DV:=Cb Ao.round.E N f97 (Ak f97) [1,1,0,1,0] [] M ⟨Fo 63 [(2,.int .u64 b),(3,.ptr 3 0 0),(4,.ptr 4 0 0),(6,.ptr 6 0 0),(7,.ptr 7 0 0),(9,.bool p9_1),(10,.int .i64 p10)],[(3,false,.box [.int .i64 r,.int .i64 c,.ints .arg .u64 p3_1]),(4,false,.box [.int .i64 p,.int .i64 q,.ints .arg .u64 p4_1]),(6,false,.box [.int .i64 0,.int .i64 0,.nil]),(7,false,.box [.int .i64 0,.int .i64 0,.nil])]⟩
def Ao.round.L1:Option DV:=Cb Ao.round.E N f97 (Ak f97) [1,1,0,1,0,0,1,0,0,1,0] [M0] M ⟨Fo 63 [(2,.int .u64 b),(3,.ptr 3 0 0),(4,.ptr 4 0 0),(6,.ptr 6 0 0),(7,.ptr 7 0 0),(9,.bool p9),(10,.int .i64 p10_1),(11,.int .i64 p11)],[(3,false,.box [.int .i64 r,.int .i64 c,.ints .arg .u64 p3]),(4,false,.box [.int .i64 p,.int .i64 q,.ints .arg .u64 p4]),(6,false,.box [.int .i64 0,.int .i64 0,.nil]),(7,false,.box [.int .i64 0,.int .i64 0,.nil])]⟩
theorem Ao.round.Au:Ao.round.L0 N (M+1) r c p q b p10 p9_1 p3_1 p4_1=bif (Bi p10 c) then Ao.round.L1 N M N r c p q b (Ab (p10+1)) p9_1 p3_1 p4_1 p10 else some (.tup [.agg [.int .i64 r,.int .i64 c,.ints .arg .u64 p3_1],.agg [.int .i64 p,.int .i64 q,.ints .arg .u64 p4_1],.bool p9_1]):=by kernel_rfl
theorem Ao.round.Ch:Ao.round.L1 N M0 (M+1) r c p q b p11 p9 p3 p4 p10_1=bif (Bi p11 c) then bif (Hh r c p3 p10_1&&B3 (0≤(0:Int)∧(0:Int)≤r)) then bif (Hh r c p3 p11&&B3 (0≤(0:Int)∧(0:Int)≤r)) then bif ((B4 (Cn c p3 p10_1 0 (toNat (r-0)))&&B4 (Cn c p3 p11 0 (toNat (r-0))))&&(Af b&&B3 (length (Cn c p3 p10_1 0 (toNat (r-0)))=length (Cn c p3 p11 0 (toNat (r-0)))∧length (Cn c p3 p10_1 0 (toNat (r-0)))≤6))) then bif (beR (Cn c p3 p10_1 0 (toNat (r-0))) (Cn c p3 p11 0 (toNat (r-0))) b) then Ao.round.L1 N M0 M r c p q b (Ab (p11+1)) p9 p3 p4 p10_1 else bif ((B4 (Cn c p3 p10_1 0 (toNat (r-0)))&&B4 (Cn c p3 p11 0 (toNat (r-0))))&&B3 (length (Cn c p3 p10_1 0 (toNat (r-0)))=length (Cn c p3 p11 0 (toNat (r-0)))∧length (Cn c p3 p10_1 0 (toNat (r-0)))≤6)) then bif (Af (Lz (G0 (Iz (Cn c p3 p10_1 0 (toNat (r-0))) (Cn c p3 p11 0 (toNat (r-0))))))) then bif (A3 r c p3&&(Aj p3&&((Af (Mz (G0 (Iz (Cn c p3 p10_1 0 (toNat (r-0))) (Cn c p3 p11 0 (toNat (r-0))))))&&Af (Da (Lz (G0 (Iz (Cn c p3 p10_1 0 (toNat (r-0))) (Cn c p3 p11 0 (toNat (r-0))))))))&&B3 (0≤p10_1∧p10_1<c∧0≤p11∧p11<c∧p10_1≠p11)))) then bif (Af (Lz (G0 (Iz (Cn c p3 p10_1 0 (toNat (r-0))) (Cn c p3 p11 0 (toNat (r-0))))))) then bif (A3 p q p4&&(Aj p4&&((Af (Mz (G0 (Iz (Cn c p3 p10_1 0 (toNat (r-0))) (Cn c p3 p11 0 (toNat (r-0))))))&&Af (Da (Lz (G0 (Iz (Cn c p3 p10_1 0 (toNat (r-0))) (Cn c p3 p11 0 (toNat (r-0))))))))&&B3 (0≤p10_1∧p10_1<q∧0≤p11∧p11<q∧p10_1≠p11)))) then Ao.round.L1 N M0 M r c p q b (Ab (p11+1)) false (O6 (toNat r) (toNat c) p3 (toNat p10_1) (toNat p11) (Mz (G0 (Iz (Cn c p3 p10_1 0 (toNat (r-0))) (Cn c p3 p11 0 (toNat (r-0)))))) (Da (Lz (G0 (Iz (Cn c p3 p10_1 0 (toNat (r-0))) (Cn c p3 p11 0 (toNat (r-0)))))))) (O6 (toNat p) (toNat q) p4 (toNat p10_1) (toNat p11) (Mz (G0 (Iz (Cn c p3 p10_1 0 (toNat (r-0))) (Cn c p3 p11 0 (toNat (r-0)))))) (Da (Lz (G0 (Iz (Cn c p3 p10_1 0 (toNat (r-0))) (Cn c p3 p11 0 (toNat (r-0)))))))) p10_1 else none else none else none else none else none else none else none else none else Ao.round.L0 N M0 r c p q b (Ab (p10_1+1)) p9 p3 p4 :=
 Eq.trans (by kernel_rfl)
 (E1 (E1 (E1 (E1 (E1 rfl (E1 (Cw (Ct _) (Cw (Ct _) (Cw (Ct _) (Cw (Ct _) rfl rfl) rfl) rfl) rfl) rfl)) rfl) rfl) rfl) rfl)
theorem Ao.round.ev:B0 Ao.round.E N f97 (Ak f97) [.agg [.int .i64 r,.int .i64 c,.ints .arg .u64 l],.agg [.int .i64 p,.int .i64 q,.ints .arg .u64 m],.int .u64 b] =
 Ao.round.L0 N N r c p q b 0 true l m:=by kernel_rfl
end
abbrev _root_.Go.Proofs.S1.Ao.round.Kn:=A8 prog 97 Ao.round.spec
theorem Ao.round.Ad (hk:A1 prog Ao.round.Ba) (h:Hyp Ao.round.E f97 Ao.round.ts Ao.round.pre Ao.round.out):Ao.round.Kn :=
 Al (A4 hk _ _ _) func97 (by kernel_rfl) (by kernel_rfl) h
def Ao.Be.hint:Nat→Option Bc
 | 0=>some { keep:=[1,2,4,5,6],objs:=[(6,2,106002,.ints 43 .u64 [])],boxes:=[2,4,5] }
 | _=>none
def Ao.Be.Ba:List (Nat × Entry):=[(85,Ah.Br.spec),(53,Am.A9.own.spec)]
def Ao.Be.E:Env:=Bg (Bb Ao.Be.Ba) (fun n=>Nat.beq n 11) Ao.Be.hint (fun _=>none)
section
variable (N M:Nat) (r c:Int) (l:List Int) (k p6:Int) (p2:List Int)
def Ao.Be.L0:Option DV:=Cb Ao.Be.E N f94 (Ak f94) [1,1,0,1,0] [] M ⟨Fo 31 [(1,.int .i64 k),(2,.ptr 2 0 0),(4,.ptr 4 0 0),(5,.ptr 5 0 0),(6,.int .i64 p6)],[(2,false,.box [.int .i64 r,.int .i64 c,.ints .arg .u64 l]),(4,false,.box [.int .i64 0,.int .i64 0,.nil]),(5,false,.box [.int .i64 r,.int .i64 c,.oref 106002]),(106002,false,.ints 43 .u64 p2)]⟩
theorem Ao.Be.Au:Ao.Be.L0 N (M+1) r c l k p6 p2=bif (Bi p6 (length l:Int)) then bif ((decide (0≤p6))&&(decide (p6<(length l:Int)))) then bif (Dd (getD l (toNat p6) 0) k) then bif ((decide (0≤p6))&&(decide (p6<(length p2:Int)))) then bif (decide ((toNat p6)<(length p2))) then Ao.Be.L0 N M r c l k (Ab (p6+1)) (List.set p2 (toNat p6) (Bf (getD l (toNat p6) 0) k)) else none else none else none else none else some (.agg [.int .i64 r,.int .i64 c,.ints (.own 106002 43) .u64 p2]) :=
 Eq.trans (by kernel_rfl)
 (E1 (Cw (Kb _ _) (Cw (Ct _) (Cw (Kb _ _) (Cw (Ct _) rfl rfl) rfl) rfl) rfl) rfl)
theorem Ao.Be.ev:B0 Ao.Be.E N f94 (Ak f94) [.agg [.int .i64 r,.int .i64 c,.ints .arg .u64 l],.int .i64 k]=bif (Bp r&&Bp c) then Ao.Be.L0 N N r c l k 0 (B8 (toNat r) (toNat c) (fun _ _=>0)) else none:=by kernel_rfl
end
abbrev _root_.Go.Proofs.S1.Ao.Be.Kn:=A8 prog 94 Ao.Be.spec
theorem Ao.Be.Ad (hk:A1 prog Ao.Be.Ba) (h:Hyp Ao.Be.E f94 Ao.Be.ts Ao.Be.pre Ao.Be.out):Ao.Be.Kn :=
 Al (A4 hk _ _ _) func94 (by kernel_rfl) (by kernel_rfl) h
def Ao.Gf.hint:Nat→Option Bc
 | 0=>some { keep:=[1,3,4],objs:=[(0,3,100003,.ints 43 .u64 [])],boxes:=[1] }
 | _=>none
def Ao.Gf.Ba:List (Nat × Entry):=[(96,Ah.Norm.spec),(22,Am.Ru.spec)]
def Ao.Gf.E:Env:=Bg (Bb Ao.Gf.Ba) (fun _=>false) Ao.Gf.hint (fun _=>none)
section
variable (N M:Nat) (r c:Int) (l:List Int) (p4:Int) (p3:List Int)
def Ao.Gf.L0:Option DV:=Cb Ao.Gf.E N f75 (Ak f75) [1,1,0,1,0] [] M ⟨Fo 20 [(1,.ptr 1 0 0),(3,.oref 100003),(4,.int .i64 p4)],[(1,false,.box [.int .i64 r,.int .i64 c,.ints .arg .u64 l]),(100003,false,.ints 43 .u64 p3)]⟩
theorem Ao.Gf.Au:Ao.Gf.L0 N (M+1) r c l p4 p3=bif (Bi p4 c) then bif (Hh r c l p4&&B3 (0≤(0:Int)∧(0:Int)≤r)) then bif (B4 (Cn c l p4 0 (toNat (r-0)))) then bif (decide ((length p3)+1≤G8)) then Ao.Gf.L0 N M r c l (Ab (p4+1)) (p3++[(B6 (Cn c l p4 0 (toNat (r-0))))]) else none else none else none else some (.ints (.own 100003 43) .u64 p3):=by kernel_rfl
theorem Ao.Gf.ev:B0 Ao.Gf.E N f75 (Ak f75) [.agg [.int .i64 r,.int .i64 c,.ints .arg .u64 l]] =
 Ao.Gf.L0 N N r c l 0 []:=by kernel_rfl
end
abbrev _root_.Go.Proofs.S1.Ao.Gf.Kn:=A8 prog 75 Ao.Gf.spec
theorem Ao.Gf.Ad (hk:A1 prog Ao.Gf.Ba) (h:Hyp Ao.Gf.E f75 Ao.Gf.ts Ao.Gf.pre Ao.Gf.out):Ao.Gf.Kn :=
 Al (A4 hk _ _ _) func75 (by kernel_rfl) (by kernel_rfl) h
def Ao.order.hint:Nat→Option Bc
 | 0=>some { keep:=[0,3,4],objs:=[(0,3,100003,.ints 3 .i64 [])],boxes:=[] }
 | 2=>some { keep:=[0,3,4,5,6,7],objs:=[(0,3,100003,.ints 3 .i64 []),(0,5,100005,.ints 3 .i64 [])],boxes:=[] }
 | _=>none
def Ao.order.Ba:List (Nat × Entry):=[(158,Ao.F3.spec)]
def Ao.order.E:Env:=Bg (Bb Ao.order.Ba) (fun _=>false) Ao.order.hint (fun _=>none)
section
variable (N M0 M:Nat) (l:List Int) (p4_1:Int) (p3_1:List Int) (p6:Bool) (p7:Int) (p5:List Int) (p4:Int) (p3:List Int)
def Ao.order.L0:Option DV:=Cb Ao.order.E N f98 (Ak f98) [1,1,0,1,0] [] M ⟨Fo 57 [(0,.ints .arg .u64 l),(3,.oref 100003),(4,.int .i64 p4)],[(100003,false,.ints 3 .i64 p3)]⟩
def Ao.order.L1:Option DV:=Cb Ao.order.E N f98 (Ak f98) [1,1,0,1,0,0,1,0,0,1,1,0,1,0] [M0] M ⟨Fo 57 [(0,.ints .arg .u64 l),(3,.oref 100003),(4,.int .i64 p4_1),(5,.oref 100005),(6,.bool p6),(7,.int .i64 p7)],[(100003,false,.ints 3 .i64 p3_1),(100005,false,.ints 3 .i64 p5)]⟩
theorem Ao.order.Au:Ao.order.L0 N (M+1) l p4 p3=bif (Bi p4 (length l:Int)) then Ao.order.L1 N M N l p4 p3 false 0 [] else some (.ints (.own 100003 3) .i64 p3):=by kernel_rfl
theorem Ao.order.Ch:Ao.order.L1 N M0 (M+1) l p4_1 p3_1 p6 p7 p5=bif (Bi p7 (length p3_1:Int)) then bif (p6||((decide (0≤p4_1))&&(decide (p4_1<(length l:Int))))) then bif (p6||((decide (0≤p7))&&(decide (p7<(length p3_1:Int))))) then bif (p6||(decide ((toNat p7)<(length p3_1)))) then bif (p6||((decide (0≤(getD p3_1 (toNat p7) 0)))&&(decide ((getD p3_1 (toNat p7) 0)<(length l:Int))))) then bif (p6||(Af (getD l (toNat p4_1) 0)&&Af (getD l (toNat (getD p3_1 (toNat p7) 0)) 0))) then bif ((!p6)&&(Fx (getD l (toNat p4_1) 0) (getD l (toNat (getD p3_1 (toNat p7) 0)) 0))) then bif (decide ((length p5)+1≤G8)) then bif ((decide (0≤p7))&&(decide (p7<(length p3_1:Int)))) then bif (decide ((toNat p7)<(length p3_1))) then bif (decide ((length (p5++[p4_1]))+1≤G8)) then Ao.order.L1 N M0 M l p4_1 p3_1 true (Ab (p7+1)) ((p5++[p4_1])++[(getD p3_1 (toNat p7) 0)]) else none else none else none else none else bif ((decide (0≤p7))&&(decide (p7<(length p3_1:Int)))) then bif (decide ((toNat p7)<(length p3_1))) then bif (decide ((length p5)+1≤G8)) then Ao.order.L1 N M0 M l p4_1 p3_1 p6 (Ab (p7+1)) (p5++[(getD p3_1 (toNat p7) 0)]) else none else none else none else none else none else none else none else none else bif (!p6) then bif (decide ((length p5)+1≤G8)) then Ao.order.L0 N M0 l (Ab (p4_1+1)) (p5++[p4_1]) else none else Ao.order.L0 N M0 l (Ab (p4_1+1)) p5 :=
 Eq.trans (by kernel_rfl)
 (E1 (Ay (Agp p6) (Ay (Agp p6) (Cw (Aqx _ _ _) (Ay (Axv p6) (Ay (Agp p6) (Ay (Agp p6) (Ay (Agp p6) (Cw (Aqx _ _ _) (Cw (A1m _ _) (Cw (Aqx _ _ _) (Ay (Axv p6) (Cw (A1n _ _) (Ay (A1o p6) (Cw (A1p _ _) rfl rfl)) rfl)) rfl) rfl) rfl))))) rfl))) rfl)
theorem Ao.order.ev:B0 Ao.order.E N f98 (Ak f98) [.ints .arg .u64 l] =
 Ao.order.L0 N N l 0 []:=by kernel_rfl
end
abbrev _root_.Go.Proofs.S1.Ao.order.Kn:=A8 prog 98 Ao.order.spec
theorem Ao.order.Ad (hk:A1 prog Ao.order.Ba) (h:Hyp Ao.order.E f98 Ao.order.ts Ao.order.pre Ao.order.out):Ao.order.Kn :=
 Al (A4 hk _ _ _) func98 (by kernel_rfl) (by kernel_rfl) h
def E2.Dc.hint:Nat→Option Bc
 | 0=>some { keep:=[1,2,4,5,6],objs:=[],boxes:=[2,4,5] }
 | 2=>some { keep:=[1,2,4,5,6,7],objs:=[],boxes:=[2,4,5] }
 | _=>none
def E2.Dc.Ba:List (Nat × Entry):=[(55,Am.At.spec),(54,Am.Hj.arg.spec),(53,Am.A9.arg.spec)]
def E2.Dc.E:Env:=Bg (Bb E2.Dc.Ba) (fun _=>false) E2.Dc.hint (fun _=>none)
section
variable (N M0 M:Nat) (r c:Int) (l x:List Int) (p7:Int) (p5:List Int) (p6_1 p6:Int) (p5_1:List Int)
def E2.Dc.L0:Option DV:=Cb E2.Dc.E N f99 (Ak f99) [1,1,0,1,0] [] M ⟨Fo 37 [(1,.ints .arg .i64 x),(2,.ptr 2 0 0),(4,.ptr 4 0 0),(5,.ptr 5 0 0),(6,.int .i64 p6)],[(2,false,.box [.int .i64 r,.int .i64 c,.ints .arg .u64 l]),(4,false,.box [.int .i64 0,.int .i64 0,.nil]),(5,false,.box [.int .i64 r,.int .i64 (length x:Int),.ints .arg .u64 p5_1])]⟩
def E2.Dc.L1:Option DV:=Cb E2.Dc.E N f99 (Ak f99) [1,1,0,1,0,0,1,0,0,1,0] [M0] M ⟨Fo 37 [(1,.ints .arg .i64 x),(2,.ptr 2 0 0),(4,.ptr 4 0 0),(5,.ptr 5 0 0),(6,.int .i64 p6_1),(7,.int .i64 p7)],[(2,false,.box [.int .i64 r,.int .i64 c,.ints .arg .u64 l]),(4,false,.box [.int .i64 0,.int .i64 0,.nil]),(5,false,.box [.int .i64 r,.int .i64 (length x:Int),.ints .arg .u64 p5])]⟩
theorem E2.Dc.Au:E2.Dc.L0 N (M+1) r c l x p6 p5_1=bif (Bi p6 r) then E2.Dc.L1 N M N r c l x 0 p5_1 p6 else some (.agg [.int .i64 r,.int .i64 (length x:Int),.ints .arg .u64 p5_1]):=by kernel_rfl
theorem E2.Dc.Ch:E2.Dc.L1 N M0 (M+1) r c l x p7 p5 p6_1=bif (Bi p7 (length x:Int)) then bif ((decide (0≤p7))&&(decide (p7<(length x:Int)))) then bif (Em r c l p6_1 (getD x (toNat p7) 0)) then bif (Em r (length x:Int) p5 p6_1 p7) then E2.Dc.L1 N M0 M r c l x (Ab (p7+1)) (List.set p5 (toNat (p6_1*(length x:Int)+p7)) (D8 c l p6_1 (getD x (toNat p7) 0))) p6_1 else none else none else none else E2.Dc.L0 N M0 r c l x (Ab (p6_1+1)) p5 :=
 Eq.trans (by kernel_rfl)
 (E1 (Cw (Kb _ _) (Cw (Ct _) (Cw (Ct _) rfl rfl) rfl) rfl) rfl)
theorem E2.Dc.ev:B0 E2.Dc.E N f99 (Ak f99) [.agg [.int .i64 r,.int .i64 c,.ints .arg .u64 l],.ints .arg .i64 x]=bif (Bp r&&Bp (length x:Int)) then E2.Dc.L0 N N r c l x 0 (B8 (toNat r) (toNat (length x:Int)) (fun _ _=>0)) else none:=by kernel_rfl
end
abbrev _root_.Go.Proofs.S1.E2.Dc.Kn:=A8 prog 99 E2.Dc.spec
theorem E2.Dc.Ad (hk:A1 prog E2.Dc.Ba) (h:Hyp E2.Dc.E f99 E2.Dc.ts E2.Dc.pre E2.Dc.out):E2.Dc.Kn :=
 Al (A4 hk _ _ _) func99 (by kernel_rfl) (by kernel_rfl) h
def Ao.Az.hint:Nat→Option Bc
 | 0=>some { keep:=[2,3,4,5,6,7,8],objs:=[],boxes:=[2,4,5] }
 | _=>none
def Ao.Az.Ba:List (Nat × Entry):=[(92,Bq.Lh.spec),(93,Ah.Bv.spec),(74,Ah.Finite.spec),(96,Ah.Norm.spec),(85,Ah.Br.spec),(95,Am.Ff.arg.spec),(99,E2.Dc.spec),(75,Ao.Gf.spec),(98,Ao.order.spec),(97,Ao.round.spec),(94,Ao.Be.spec)]
def Ao.Az.live:Nat→Option (List Nat)
 | 2=>some [1,2,3]
 | 4=>some [2,3,4,5]
 | 10=>some [2,3,4,5,7]
 | 12=>some [2,3,4,5]
 | 15=>some [2,4,5]
 | 17=>some [2,4,5]
 | _=>none
def Ao.Az.E:Env:=Bg (Bb Ao.Az.Ba) (fun _=>false) Ao.Az.hint Ao.Az.live
section
variable (N M:Nat) (r c:Int) (p4_2 p5_2 l:List Int) (p3:Int) (p5 p4:List Int) (p7:Bool) (p8:Int) (p4_1 p5_1:List Int)
def Ao.Az.C2:Option DV:=cutAt Ao.Az.E N f37 (Ak f37) [1,1] [] ⟨Fo 71 [(1,.ptr 1 0 0),(2,.ptr 2 0 0),(3,.int .i64 p3)],[(2,false,.box [.int .i64 0,.int .i64 0,.nil,.int .i64 0,.int .i64 0,.nil,.nil,.int .i64 0]),(1,false,.box [.int .i64 r,.int .i64 c,.ints .arg .u64 l])]⟩
def Ao.Az.C4:Option DV:=cutAt Ao.Az.E N f37 (Ak f37) [1,1,1,1] [] ⟨Fo 71 [(2,.ptr 2 0 0),(3,.int .i64 p3),(4,.ptr 4 0 0),(5,.ptr 5 0 0)],[(5,false,.box [.int .i64 c,.int .i64 c,.ints .arg .u64 p5]),(4,false,.box [.int .i64 r,.int .i64 c,.ints .arg .u64 p4]),(2,false,.box [.int .i64 0,.int .i64 0,.nil,.int .i64 0,.int .i64 0,.nil,.nil,.int .i64 0]),(1,false,.box [.int .i64 r,.int .i64 c,.ints .arg .u64 l])]⟩
def Ao.Az.L0:Option DV:=Cb Ao.Az.E N f37 (Ak f37) [1,1,1,1,1,1,0,1,0] [] M ⟨Fo 71 [(2,.ptr 2 0 0),(3,.int .i64 p3),(4,.ptr 4 0 0),(5,.ptr 5 0 0),(6,.int .u64 (Bf (B6 p4) (-44:Int))),(7,.bool p7),(8,.int .i64 p8)],[(2,false,.box [.int .i64 0,.int .i64 0,.nil,.int .i64 0,.int .i64 0,.nil,.nil,.int .i64 0]),(4,false,.box [.int .i64 r,.int .i64 c,.ints .arg .u64 p4_1]),(5,false,.box [.int .i64 c,.int .i64 c,.ints .arg .u64 p5_1])]⟩
def Ao.Az.C10:Option DV:=cutAt Ao.Az.E N f37 (Ak f37) [1,1,1,1,1,1,1,0] [] ⟨Fo 71 [(2,.ptr 2 0 0),(3,.int .i64 p3),(4,.ptr 4 0 0),(5,.ptr 5 0 0),(7,.bool p7)],[(2,false,.box [.int .i64 0,.int .i64 0,.nil,.int .i64 0,.int .i64 0,.nil,.nil,.int .i64 0]),(4,false,.box [.int .i64 r,.int .i64 c,.ints .arg .u64 p4_1]),(5,false,.box [.int .i64 c,.int .i64 c,.ints .arg .u64 p5_1])]⟩
def Ao.Az.C12:Option DV:=cutAt Ao.Az.E N f37 (Ak f37) [1,1,1,1,1,1,1,1] [] ⟨Fo 71 [(2,.ptr 2 0 0),(3,.int .i64 p3),(4,.ptr 4 0 0),(5,.ptr 5 0 0)],[(2,false,.box [.int .i64 0,.int .i64 0,.nil,.int .i64 0,.int .i64 0,.nil,.nil,.int .i64 0]),(4,false,.box [.int .i64 r,.int .i64 c,.ints .arg .u64 p4_1]),(5,false,.box [.int .i64 c,.int .i64 c,.ints .arg .u64 p5_1])]⟩
def Ao.Az.C15:Option DV:=cutAt Ao.Az.E N f37 (Ak f37) [1,1,1,1,1,1,1,1,1,1,1,0] [] ⟨Fo 71 [(2,.ptr 2 0 0),(4,.ptr 4 0 0),(5,.ptr 5 0 0)],[(2,false,.box [.int .i64 0,.int .i64 0,.nil,.int .i64 0,.int .i64 0,.nil,.nil,.int .i64 0]),(4,false,.box [.int .i64 r,.int .i64 c,.ints .arg .u64 p4_2]),(5,false,.box [.int .i64 c,.int .i64 c,.ints .arg .u64 p5_2])]⟩
def Ao.Az.C17:Option DV:=cutAt Ao.Az.E N f37 (Ak f37) [1,1,1,1,1,1,1,1,1,1,1,1] [] ⟨Fo 71 [(2,.ptr 2 0 0),(4,.ptr 4 0 0),(5,.ptr 5 0 0)],[(2,false,.box [.int .i64 0,.int .i64 0,.nil,.int .i64 0,.int .i64 0,.nil,.nil,.int .i64 0]),(4,false,.box [.int .i64 r,.int .i64 c,.ints .arg .u64 p4_2]),(5,false,.box [.int .i64 c,.int .i64 c,.ints .arg .u64 p5_2])]⟩
theorem Ao.Az.Ajb:Ao.Az.C2 N r c l p3=bif (A3 r c l&&(Aj l&&B3 (-2300≤(Ab ((0:Int)-p3))∧(Ab ((0:Int)-p3))≤2300))) then bif (Bp c) then Ao.Az.C4 N r c l p3 (Ni (toNat c)) (Bh l (Ab ((0:Int)-p3))) else none else none:=(Dk _ _ _ _ _ _ _).trans (by kernel_rfl)
theorem Ao.Az.Aum:Ao.Az.C4 N r c l p3 p5 p4=bif (B4 p4) then bif (Dd (B6 p4) (-44:Int)) then Ao.Az.L0 N N r c p3 p4 false 0 p4 p5 else none else none:=(Dk _ _ _ _ _ _ _).trans (by kernel_rfl)
theorem Ao.Az.Au:Ao.Az.L0 N (M+1) r c p3 p4 p7 p8 p4_1 p5_1=bif ((Bi p8 60)&&(!p7)) then bif ((A3 r c p4_1&&A3 c c p5_1)&&((Aj p4_1&&Aj p5_1)&&(Af (Bf (B6 p4) (-44:Int))&&B3 (c=c∧c=c)))) then Ao.Az.L0 N M r c p3 p4 ((Sc (toNat r) (toNat c) (Bf (B6 p4) (-44:Int)) p4_1 p5_1).2.2) (Ab (p8+1)) ((Sc (toNat r) (toNat c) (Bf (B6 p4) (-44:Int)) p4_1 p5_1).1) ((Sc (toNat r) (toNat c) (Bf (B6 p4) (-44:Int)) p4_1 p5_1).2.1) else none else Ao.Az.C10 N r c p3 p7 p4_1 p5_1 :=
 Eq.trans (by kernel_rfl)
 (Ay (R5 (Bi p8 60)) (Ay (Oo (Bi p8 60)) (Ay (W8 (Bi p8 60)) (Cw (A1j _ _) rfl rfl))))
theorem Ao.Az.Aun:Ao.Az.C10 N r c p3 p7 p4_1 p5_1=bif (!p7) then some (.agg [.int .i64 0,.int .i64 0,.nil,.int .i64 0,.int .i64 0,.nil,.nil,.int .i64 6]) else Ao.Az.C12 N r c p3 p4_1 p5_1:=(Dk _ _ _ _ _ _ _).trans (by kernel_rfl)
theorem Ao.Az.Ab8:Ao.Az.C12 N r c p3 p4_1 p5_1=bif (A3 r c p4_1&&Aj p4_1) then bif (B4 (Cf (toNat r) (toNat c) p4_1)&&B3 (length (Cf (toNat r) (toNat c) p4_1)≤6)) then bif (A3 r c p4_1&&B3 (((length (Fp (Cf (toNat r) (toNat c) p4_1)):Nat):Int)=c∧Jh (toNat c) (Fp (Cf (toNat r) (toNat c) p4_1))=true)) then bif (A3 r c (Cq (toNat r) (toNat c) p4_1 (Fp (Cf (toNat r) (toNat c) p4_1)))&&(Aj (Cq (toNat r) (toNat c) p4_1 (Fp (Cf (toNat r) (toNat c) p4_1)))&&B3 (-2300≤p3∧p3≤2300))) then bif (A3 c c p5_1&&B3 (((length (Fp (Cf (toNat r) (toNat c) p4_1)):Nat):Int)=c∧Jh (toNat c) (Fp (Cf (toNat r) (toNat c) p4_1))=true)) then Ao.Az.C15 N r c (Bh (Cq (toNat r) (toNat c) p4_1 (Fp (Cf (toNat r) (toNat c) p4_1))) p3) (Cq (toNat c) (toNat c) p5_1 (Fp (Cf (toNat r) (toNat c) p4_1))) else none else none else none else none else none:=(Dk _ _ _ _ _ _ _).trans (by kernel_rfl)
theorem Ao.Az.Alh:Ao.Az.C15 N r c p4_2 p5_2=bif (B4 p4_2) then bif ((!(D2 p4_2))||(B4 p5_2)) then bif ((!(D2 p4_2))||(!(D2 p5_2))) then some (.agg [.int .i64 0,.int .i64 0,.nil,.int .i64 0,.int .i64 0,.nil,.nil,.int .i64 2]) else Ao.Az.C17 N r c p4_2 p5_2 else none else none :=
 Eq.trans ((Dk _ _ _ _ _ _ _).trans (by kernel_rfl))
 (E1 (Ay (Un (D2 p4_2)) (Ay (Pz (D2 p4_2)) (Cw (Ang _ _) (Ay (Pz (D2 p4_2)) (Ay (Xc (D2 p4_2)) (Cw (Anh _ _) rfl rfl))) rfl))) rfl)
theorem Ao.Az.Az6:Ao.Az.C17 N r c p4_2 p5_2=bif (A3 r c p4_2&&Aj p4_2) then some (.agg [.int .i64 r,.int .i64 c,.ints .arg .u64 p4_2,.int .i64 c,.int .i64 c,.ints .arg .u64 p5_2,.ints .fresh .u64 (Cf (toNat r) (toNat c) p4_2),.int .i64 0]) else none :=
 Eq.trans ((Dk _ _ _ _ _ _ _).trans (by kernel_rfl))
 (Cw (Ct _) rfl rfl)
theorem Ao.Az.ev:B0 Ao.Az.E N f37 (Ak f37) [.agg [.int .i64 r,.int .i64 c,.ints .arg .u64 l]]=bif (B4 l) then bif (Af (Bw l)) then Ao.Az.C2 N r c l (Ck (Bw l)) else none else none:=by kernel_rfl
end
abbrev _root_.Go.Proofs.S1.Ao.Az.Kn:=A8 prog 37 Ao.Az.spec
theorem Ao.Az.Ad (hk:A1 prog Ao.Az.Ba) (h:Hyp Ao.Az.E f37 Ao.Az.ts Ao.Az.pre Ao.Az.out):Ao.Az.Kn :=
 Al (A4 hk _ _ _) func37 (by kernel_rfl) (by kernel_rfl) h
end EqRef19
end Go.Proofs.S1
namespace Go.Rnd
open Go.Den
structure Good (x:Int):Prop where
 word:Af x=true
 k3:Ai x.toNat≠3
 k4:Ai x.toNat≠4
 ne:x.toNat≠2^63
end Go.Rnd
namespace Go.Rnd
open Go.Den
theorem Azp {b:Nat} (h:b<Eh):Ai b≠3∧Ai b≠4∧b%2^63=b:=by
 have hi:=F6
 have h3:b%2^63=b:=by omega
 have hr:=Pk b
 have hf:=Kh b
 rcases H3 b with ⟨p,_,_⟩ | ⟨p,_,_⟩ | ⟨_,p,q⟩
 ·exfalso; rw [p] at hr; omega
 ·exfalso; rw [p] at hr; omega
 ·exact ⟨p,q,h3⟩
theorem Zs:∀ (l:List Int) (m:Nat),(∀ z∈l,Dw z=true)→m<Eh→P6 l m<Eh
 | [],_,_,h=>h
 | z::l,m,hl,hm=>by
   have zk:=Nh (show J1 z.toNat=true from hl z A55)
   rw [Ai1 zk.1]
   refine Zs l _ (fun w hw=>hl w (A5v _ hw)) ?_
   have hz:Ge z.toNat<Eh:=Tp zk.2 zk.1
   omega
theorem Amn {l:List Int} (h:D2 l=true):∀ z∈l,Dw z=true:=List.all_eq_true.1 h
theorem Axg {x:List Int} (hf:D2 x=true):Ai (Bw x).toNat≠3∧Ai (Bw x).toNat≠4∧Ge (Bw x).toNat=(Bw x).toNat∧∀ z∈x,Ge z.toNat≤Ge (Bw x).toNat:=by
 have eb:(Bw x).toNat=P6 x 0:=A4s _
 have hl:=Zs x 0 (Amn hf) (by rw [F6]; omega)
 obtain ⟨h1,h2,h3⟩:=Azp hl
 have hN:P6 x 0≠Ok:=fun e=>by rw [e,F6,P1] at hl; omega
 rw [eb]
 refine ⟨h1,h2,h3,fun z hz=>?_⟩
 show _≤P6 x 0%2^63
 rw [h3]
 rcases At6 x 0 with g | ⟨_,g⟩
 ·exact absurd g hN
 ·exact g z hz
theorem A15 {x:Int} (h:Dw x=true):Ai x.toNat≠3∧Ai x.toNat≠4:=⟨(Nh (show J1 x.toNat=true from h)).2,(Nh (show J1 x.toNat=true from h)).1⟩
theorem Xi (x n:Int):(Bf x n).toNat=(Fk x.toNat n).1:=A4s _
end Go.Rnd
namespace Go.Rnd
open Go.Den
theorem Qo (a b:Int):Fx a b=Sl b a:=by
 unfold Fx Sl Nu G7 Aal Acf
 by_cases h:Ai a.toNat=4∨Ai b.toNat=4
 ·have h':Ai b.toNat=4∨Ai a.toNat=4:=h.symm
  rw [A4r h,A5d h']; rfl
 ·have h':¬ (Ai b.toNat=4∨Ai a.toNat=4):=fun g=>h g.symm
  rw [A4v h,A5c h,A5c h',A59,A53]
  rcases Int.lt_trichotomy (Hr a.toNat) (Hr b.toNat) with g | g | g
  ·rw [A5d g,A5c (by omega),A5d g]; rfl
  ·rw [A5c (by omega),A5c (by omega),A5c (by omega),A5c (by omega)]
  ·rw [A5c (by omega),A5d g,A5d g]; rfl
theorem Axi:beR=W9:=by
 funext x y low
 unfold beR W9
 rw [Qo,Qo,Qo]
theorem Aj1 (R n:Nat) (low:Int) (w v:List Int):Sc R n low w v=Ju R n low w v:=by
 unfold Sc Ju; rw [Axi]
theorem Anw {b:Nat} {n:Int} (h4:Ai b≠4):Ai (Fk b n).1≠4:=by
 by_cases h:Ai b=3∨Ai b=0
 ·unfold Fk; rw [A5c h4,A5d h]; exact h4
 ·rw [Xh h4 h]; exact Tn _ _ _
theorem Als {k:Int}:∀ (l:List Int) (s t:Nat),(∀ z∈l,Bd 1 (Fk z.toNat k).1)→Bm t 2 s→0<t→t+l.length≤1000→Bm (t+l.length) 2 (Vn k (s:Int) l).toNat
 | [],s,t,_,hs,_,_=>by
   show Bm t 2 (toNat (s:Int))
   rw [A4s]; exact hs
 | x::l,s,t,hl,hs,h0,ht=>by
   simp only [List.length_cons] at ht ⊢
   have h1:Bd 1 (Fk x.toNat k).1:=hl x A55
   have h2:Bd 2 (Ly (Fk x.toNat k).1 (Fk x.toNat k).1).1:=Bd.mul (j:=1) (k:=1) (by decide) h1 h1
   have h3:=Bm.add (k:=2) (by omega) (by omega) (by decide) hs h2.bm
   have:=Als l _ (t+1) (fun z hz=>hl z (A5v _ hz)) h3 (by omega) (by omega)
   rw [show t+(l.length+1)=t+1+l.length by omega]
   unfold Vn Dm Ca
   rw [Xi,A4s,A4s]
   exact this
theorem Ar8 {x:List Int} (hf:D2 x=true) (hl:x.length≤6):Ai (B6 x).toNat≠4:=by
 obtain ⟨b3,b4,_,hb⟩:=Axg hf
 unfold B6
 by_cases h:Bw x=0∨Dw (Bw x)=false
 ·rw [A5d h]; exact b4
 ·rw [A5c h]
  obtain ⟨t,te,t1,_⟩:=Aq4 (-Ck (Bw x)) x 0 (Nat.zero_le _)
  have te:Vn (-Ck (Bw x)) 0 x=t:=te
  have bm:Bm (1+x.length) 2 (Vn (-Ck (Bw x)) 0 x).toNat:=Als x 0 1 (fun z hz=>by
   have zk:=A15 (Amn hf z hz)
   exact Bd.down zk.1 zk.2 b3 b4 (hb z hz)) (Bd.zero false 2).bm (by decide) (by omega)
  rw [te,A4s] at bm
  have bt:Bd (3+3) t:=(bm.bd (j:=3) (by omega)).mono (by decide)
  have br:Bd 3 (Oq t).1:=Bd.root (by decide) bt (Aas t1)
  rw [te,Xi]
  unfold Ea
  rw [A4s,A4s]
  exact Anw br.2.1
section
variable {key:Int→Int} (hk:∀ i,Ai (key i).toNat≠4)
def U1 (key:Int→Int) (i:Int):Int:=Hr (key i).toNat
include hk
theorem V6 (y x:Int):G7 (key y) (key x)<0↔U1 key y<U1 key x:=by
 unfold G7 Acf U1
 rw [A5c (fun h=>h.elim (hk y) (hk x))]
 split
 ·exact ⟨fun _=>‹_›,fun _=>by decide⟩
 ·split
  ·exact ⟨fun h=>absurd h (by decide),fun h=>absurd h ‹_›⟩
  ·exact ⟨fun h=>absurd h (by decide),fun h=>absurd h ‹_›⟩
theorem Ahn (x y:Int):Fx (key x) (key y)=true↔U1 key y<U1 key x:=by
 rw [Qo]
 unfold Sl
 rw [decide_eq_true_iff]
 exact V6 hk y x
theorem Adr {x y:Int} (h:U1 key y<U1 key x):∀ A:List Int,Pe key x (A++[y])=Pe key x A++[y]
 | []=>A5d ((Ahn hk x y).2 h)
 | a::A=>by
   rw [List.cons_append]
   unfold Pe
   split
   ·rfl
   ·rw [Adr h A]; rfl
theorem Aia {x:Int}:∀ A:List Int,(∀ a∈A,U1 key x≤U1 key a)→Pe key x A=A++[x]
 | [],_=>rfl
 | a::A,h=>by
   have ha:=h a A55
   unfold Pe
   rw [A5c (fun g=>by have:=(Ahn hk x a).1 g; omega),Aia A (fun z hz=>h z (A5v _ hz))]
   rfl
def Am1 (key:Int→Int) (acc:List Int):Prop:=acc.Pairwise fun y z=>U1 key y≤U1 key z
theorem Adp {x:Int}:∀ {acc:List Int},Am1 key acc→Am1 key (P3 key x acc)
 | [],_=>List.pairwise_singleton _ _
 | y::t,h=>by
   have h':=List.pairwise_cons.1 h
   unfold P3
   split
   ·rename_i g
    have g:=(V6 hk y x).1 g
    refine List.pairwise_cons.2 ⟨fun z hz=>?_,Adp h'.2⟩
    rcases Ah8 hz with rfl | hz
    ·omega
    ·exact h'.1 z hz
   ·rename_i g
    have g:¬ U1 key y<U1 key x:=fun e=>g ((V6 hk y x).2 e)
    refine List.pairwise_cons.2 ⟨fun z hz=>?_,h⟩
    rcases List.mem_cons.1 hz with rfl | hz
    ·omega
    ·have:=h'.1 z hz; omega
theorem Ah7 {x:Int}:∀ {acc:List Int},Am1 key acc→(P3 key x acc).reverse=Pe key x acc.reverse
 | [],_=>rfl
 | y::t,h=>by
   have h':=List.pairwise_cons.1 h
   rw [List.reverse_cons]
   unfold P3
   split
   ·rename_i g
    have g:=(V6 hk y x).1 g
    rw [Adr hk g,List.reverse_cons,Ah7 h'.2]
   ·rename_i g
    have g:¬ U1 key y<U1 key x:=fun e=>g ((V6 hk y x).2 e)
    rw [Aia hk _ (fun z hz=>by
     rcases List.mem_append.1 hz with hz | hz
     ·have:=h'.1 z (List.mem_reverse.1 hz); omega
     ·rw [List.mem_singleton.1 hz]; omega),List.reverse_cons,List.reverse_cons]
theorem Api (l:List Int):∀ {acc:List Int},Am1 key acc→(l.foldl (fun acc x=>P3 key x acc) acc).reverse=l.foldl (fun acc x=>Pe key x acc) acc.reverse:=by
 induction l with
 | nil=>intro acc _; rfl
 | cons x t ih =>
   intro acc h
   rw [List.foldl_cons,List.foldl_cons,ih (Adp hk h),Ah7 hk h]
end
theorem Akb {l:List Int} (hk:∀ x∈l,Ai x.toNat≠4):Fp l=E8 l (Le l.length):=by
 unfold Fp E8 R9
 refine (Api (key:=Lr l) (fun i=>?_) _ (acc:=[]) List.Pairwise.nil).symm
 unfold Lr
 rw [A40]
 rcases A5n i.toNat l.length with h | h
 ·rw [A47 h]; exact hk _ (List.getElem_mem h)
 ·rw [A58 h]; decide
theorem As5 {key:Int→Int} {x z:Int} {l:List Int}:z∈Pe key x l↔z=x∨z∈l:=by
 induction l with
 | nil=>simp [Pe]
 | cons y t ih =>
   unfold Pe
   split
   ·rw [List.mem_cons]
   ·rw [List.mem_cons,ih,List.mem_cons]
    constructor
    ·rintro (h | h | h)
     ·exact .inr (.inl h)
     ·exact .inl h
     ·exact .inr (.inr h)
    ·rintro (h | h | h)
     ·exact .inr (.inl h)
     ·exact .inl h
     ·exact .inr (.inr h)
theorem Yt (key:Int→Int) (x:Int) (l:List Int):(Pe key x l).length=l.length+1:=by
 induction l with
 | nil=>rfl
 | cons y t ih =>
   unfold Pe
   split
   ·rfl
   ·rw [List.length_cons,ih,List.length_cons]
theorem Adu {key:Int→Int} {z:Int} (l:List Int):∀ acc:List Int,z∈l.foldl (fun acc x=>Pe key x acc) acc↔z∈acc∨z∈l:=by
 induction l with
 | nil=>intro acc; simp
 | cons x t ih =>
   intro acc
   rw [List.foldl_cons,ih,As5,List.mem_cons]
   constructor
   ·rintro ((h | h) | h)
    ·exact .inr (.inl h)
    ·exact .inl h
    ·exact .inr (.inr h)
   ·rintro (h | h | h)
    ·exact .inl (.inr h)
    ·exact .inl (.inl h)
    ·exact .inr h
theorem Aak {l:List Int} {z:Int}:z∈Fp l↔z∈Le l.length:=by
 unfold Fp
 rw [Adu]
 simp
theorem Akd (l:List Int):(Fp l).length=l.length:=by
 unfold Fp
 suffices h:∀ (x acc:List Int),(x.foldl (fun acc x=>Pe (Lr l) x acc) acc).length=acc.length+x.length by
  rw [h,Qh]; simp
 intro x
 induction x with
 | nil=>intro acc; rfl
 | cons y t ih=>intro acc; rw [List.foldl_cons,ih,Yt,List.length_cons]; omega
theorem Aol (l:List Int):Jh l.length (Fp l)=true:=J0.2 fun z hz=>J0.1 (Zi _) z (Aak.1 hz)
theorem Adq {key:Int→Int} {x z:Int} {l:List Int} (h:z=x∨z∈l):z∈P3 key x l:=by
 induction l with
 | nil =>
   rcases h with h | h
   ·exact List.mem_singleton.2 h
   ·cases h
 | cons y t ih =>
   unfold P3
   split
   ·rcases h with h | h
    ·exact A5v _ (ih (.inl h))
    ·rcases List.mem_cons.1 h with h | h
     ·exact h ▸ A55
     ·exact A5v _ (ih (.inr h))
   ·exact List.mem_cons.2 h
theorem Ans {l x:List Int} {z:Int} (h:z∈x):z∈E8 l x:=by
 unfold E8 R9
 rw [List.mem_reverse]
 suffices g:∀ acc:List Int,(z∈acc∨z∈x)→z∈x.foldl (fun acc x=>P3 (Lr l) x acc) acc from g [] (.inr h)
 clear h
 induction x with
 | nil =>
   intro acc h
   rcases h with h | h
   ·exact h
   ·cases h
 | cons y t ih =>
   intro acc h
   rw [List.foldl_cons]
   refine ih _ ?_
   rcases h with h | h
   ·exact .inl (Adq (.inr h))
   ·rcases List.mem_cons.1 h with h | h
    ·exact .inl (Adq (.inl h))
    ·exact .inr h
theorem Ahj {n k:Nat} (h:k<n):(k:Int)∈Le n:=List.mem_map.2 ⟨k,List.mem_range.2 h,rfl⟩
theorem Anx {x k:Int} (h:Dw x=false):Dw (Bf x k)=false:=by
 have hx:Ai x.toNat=3∨Ai x.toNat=4:=by
  unfold Dw at h; rw [X1] at h
  by_cases h3:Ai x.toNat=3
  ·exact .inl h3
  ·by_cases h4:Ai x.toNat=4
   ·exact .inr h4
   ·simp [h3,h4] at h
 unfold Dw
 rw [Xi,X1]
 unfold Fk
 rcases hx with h3 | h4
 ·rw [A5c (by rw [h3]; decide),A5d (.inl h3),h3]; rfl
 ·rw [A5d h4]; decide
theorem Abg {R n:Nat} {w ps:List Int} {k:Nat} (hp:(k:Int)∈ps) (hl:ps.length=n) (h:D2 (Ey R n w k)=false) (e:Int):D2 (Bh (Cq R n w ps) e)=false:=by
 obtain ⟨x,hx,hf⟩:∃ x∈Ey R n w k,Dw x=false:=by
  unfold D2 at h
  rw [List.all_eq_false] at h
  obtain ⟨x,hx,g⟩:=h
  exact ⟨x,hx,by simpa using g⟩
 obtain ⟨i,hi,rfl⟩:=List.mem_map.1 hx
 have hi:=List.mem_range.1 hi
 obtain ⟨j,hj,ej⟩:=List.mem_iff_getElem.1 hp
 unfold D2
 rw [List.all_eq_false]
 refine ⟨Bf ((Cq R n w ps).getD (i*n+j) 0) e,List.mem_map.2 ⟨_,?_,rfl⟩,?_⟩
 ·have:i*n+j<(Cq R n w ps).length:=by rw [F5]; exact Ig hi (by omega)
  rw [A40,A47 this]
  exact List.getElem_mem this
 ·unfold Cq
  rw [Abe hi (by omega),A40,A47 hj,A6a,ej]
  rw [Int.zero_add] at hf
  rw [Anx hf]
  decide
end Go.Rnd
namespace Go.Proofs.S1
open Go Go.Den Go.Rnd Go.Proofs
open EqRef19
theorem Am.A9.arg.known:Am.A9.arg.Kn:=A8.Am7 (P:=_) (pre:=Am.A9.pre) (out:=Am.A9.out) Am.A9.known [] fun ats h=>by
 unfold Am.A9.arg.pre at h
 split at h
 ·exact ⟨h,Wk.Hc (.cons .int (.cons .int (.cons (.fresh _ _) .nil)))⟩
 ·cases h
theorem Ao.F3.known:Ao.F3.Kn:=Ao.F3.Ad (.cons Bq.Order.known .nil) fun a b hp=>by
 have hab:(Af a&&Af b)=true:=hp
 refine ⟨0,.bool (Fx a b),[],?_,.bool⟩
 rw [Ao.F3.ev,hab,A4q,Av]
 unfold Fx
 cases Nu a b<;>rfl
theorem Ao.be.known:Ao.be.Kn:=Ao.be.Ad (.cons Bq.Hn.known (.cons Ah.Iv.known (.cons Ah.Mul.known (.cons Ah.Norm.known (.cons Ah.Br.known (.cons Ao.F3.known .nil)))))) fun x y b hp=>by
 obtain ⟨h1,hp⟩:=Ac.1 (show ((B4 x&&B4 y)&&(Af b&&B3 (length x=length y∧length x≤6)))=true from hp)
 obtain ⟨ox,oy⟩:=Ac.1 h1
 obtain ⟨hb,hp⟩:=Ac.1 hp
 obtain ⟨hl,h6⟩:=Aq.1 hp
 have ax:Aj x=true:=Aq.2 (Aq.1 ox).2
 have ay:Aj y=true:=Aq.2 (Aq.1 oy).2
 have sc:Dd (Ca (B6 x) (B6 y)) (-44:Int)=true:=Ac.2 ⟨Eu _ _,Aq.2 (by decide)⟩
 refine ⟨0,.bool (beR x y b),[],?_,.bool⟩
 rw [Ao.be.ev,ox,oy,A4q,A4q,Ks,Ks,A4w,A4q,sc,A4q,hb,A4w,A4q,A52,A4q,U3 ax ay hl h6,A52,A4q,Hg,A52,A4q,Ns,Ha (Eu _ _),A4w,A52,A4q]
 unfold beR
 cases Fx (B6 x) b<;>cases Fx (B6 y) b<;>rfl
theorem Ag6 (N:Nat) {t:Int} (ht:Af t=true):Ao.Cr.C7 N t=some (.tup [.int .u64 (Mz t),.int .u64 (Lz t)]):=by
 have h1:Af (Dm (4607182418800017408:Int) (Ca t t))=true:=Nt Lp (Eu _ _)
 rw [Ao.Cr.Y4,ht,A4w,A4q,Lp,Eu,A4w,A4q,h1,A4q,Q4 h1,A4w,A4q,Ji,A4w,A4q]
 rfl
theorem Arj (N:Nat) {z:Int} (hz:Af z=true):Ao.Cr.C3 N z=some (.tup [.int .u64 (Mz (G0 z)),.int .u64 (Lz (G0 z))]):=by
 have h1:Af (Dm (4607182418800017408:Int) (Ca z z))=true:=Nt Lp (Eu _ _)
 have h2:=Q4 h1
 have h3:Af (Dm (Gj z) (Ea (Dm (4607182418800017408:Int) (Ca z z))))=true:=Nt (Ns z) h2
 rw [Ao.Cr.A2h,hz,A4w,A4q,Lp,Eu,A4w,A4q,h1,A4q,Ao.Cr.Aum,hz,A4q,Ns,h2,A4w,A4q,Lp,h3,A4w,A4q,Ao.Cr.Aja,hz,A4q,Ji,A4q]
 have e:G0 z=bif Eb z then Da (Es (4607182418800017408:Int) (Dm (Gj z) (Ea (Dm (4607182418800017408:Int) (Ca z z))))) else Es (4607182418800017408:Int) (Dm (Gj z) (Ea (Dm (4607182418800017408:Int) (Ca z z)))):=by
  unfold G0 Aen V8
  cases Eb z<;>rfl
 rw [e]
 cases Eb z with
 | true=>rw [A4q,A4q]; exact Ag6 N (Oz (Ji _ _))
 | false=>rw [A4u,A4u]; exact Ag6 N (Ji _ _)
theorem Ao.Cr.known:Ao.Cr.Kn:=Ao.Cr.Ad (.cons A6.Dn.known (.cons A6.Neg.known (.cons Bq.Hn.known (.cons Ah.Add.known (.cons Ah.Div.known (.cons Ah.Iv.known (.cons Ah.Mul.known (.cons Ah.Sqrt.known (.cons Ah.Sub.known .nil))))))))) fun x y hp=>by
 obtain ⟨h1,hp⟩:=Ac.1 (show ((B4 x&&B4 y)&&B3 (length x=length y∧length x≤6))=true from hp)
 obtain ⟨ox,oy⟩:=Ac.1 h1
 obtain ⟨hl,h6⟩:=Aq.1 hp
 have ax:Aj x=true:=Aq.2 (Aq.1 ox).2
 have ay:Aj y=true:=Aq.2 (Aq.1 oy).2
 refine ⟨0,.tup [.int .u64 (Mz (G0 (Iz x y))),.int .u64 (Lz (G0 (Iz x y)))],[],?_,Wk.Hs (.cons .int (.cons .int .nil))⟩
 rw [Ao.Cr.ev,U3 ax ay hl h6,A4q,Ao.Cr.Ajb,U3 ay ay rfl (by omega),A4q,U3 ax ax rfl h6,A4q,Hg,Hg,A4w,A4q,Hg,A4w,A4q,Q3 (Hg _ _) (Hg _ _),Nt (Hg _ _) (Hg _ _),A4w,A4q]
 exact Arj 0 (Ji _ _)
section
variable {R C:Nat} {b:Int} (r6:R≤6) (c6:C≤6) (hb:Af b=true) (N:Nat)
include r6 c6 hb
theorem Arl {M0:Nat} {p:Nat}:∀ (d q F:Nat) (s:List Int × List Int × Bool),q+d=C→d<F→p<q→H5 R C s →
 Ao.round.L1 N M0 F (R:Int) (C:Int) (C:Int) (C:Int) b (q:Int) s.2.2 s.1 s.2.1 (p:Int) =
  Ao.round.L0 N M0 (R:Int) (C:Int) (C:Int) (C:Int) b (((p+1:Nat):Int)) (Pd beR R C b p d q s).2.2 (Pd beR R C b p d q s).1 (Pd beR R C b p d q s).2.1:=by
 intro d
 induction d with
 | zero =>
   intro q F s hq hF hpq hs
   obtain ⟨F,rfl⟩:∃ G,F=G+1:=⟨F-1,by omega⟩
   rw [Ao.round.Ch,Av,A4v (by omega),A4u,An (by omega) (by omega)]
   rfl
 | succ d ih =>
   intro q F s hq hF hpq hs
   obtain ⟨F,rfl⟩:∃ G,F=G+1:=⟨F-1,by omega⟩
   have hr:=Ew r6 c6 hs.1.1
   have hv:=Ew c6 c6 hs.2.1
   have cp:∀ j:Nat,j<C→(Hh (R:Int) (C:Int) s.1 (j:Int)&&B3 (0≤(0:Int)∧(0:Int)≤(R:Int)))=true:=fun j hj=>Ac.2 ⟨Ac.2 ⟨hr,Aq.2 (by omega)⟩,Aq.2 (by omega)⟩
   have ox:∀ j:Nat,B4 (Cn (C:Int) s.1 (j:Int) 0 R)=true:=fun j=>Gi (Ot hs.1.2) (by rw [Fs]; omega)
   have cl:B3 (length (Cn (C:Int) s.1 (p:Int) 0 R)=length (Cn (C:Int) s.1 (q:Int) 0 R)∧length (Cn (C:Int) s.1 (p:Int) 0 R)≤6)=true:=Aq.2 ⟨by rw [Fs,Fs],by rw [Fs]; exact r6⟩
   have cq:B3 (0≤(p:Int)∧(p:Int)<(C:Int)∧0≤(q:Int)∧(q:Int)<(C:Int)∧(p:Int)≠(q:Int))=true:=Aq.2 (by omega)
   have hn:=ih (q+1) F (Go.Rnd.Mw beR R C b p q s) (by omega) (by omega) (by omega) hs.Mw
   rw [Ao.round.Ch,Av,A4r (by omega),A4q,cp p (by omega),A4q,cp q (by omega),A4q,show toNat ((R:Int)-(0:Int))=R by omega,ox,ox,cl,hb,A4w,A4w,A4w,A4q]
   simp only [A4s]
   rw [An (by omega) (by omega)]
   show _=Ao.round.L0 N M0 (R:Int) (C:Int) (C:Int) (C:Int) b (((p+1:Nat):Int)) (Pd beR R C b p d (q+1) (Go.Rnd.Mw beR R C b p q s)).2.2 (Pd beR R C b p d (q+1) (Go.Rnd.Mw beR R C b p q s)).1 (Pd beR R C b p d (q+1) (Go.Rnd.Mw beR R C b p q s)).2.1
   rw [← hn]
   unfold Go.Rnd.Mw
   show (bif beR (Ey R C s.1 p) (Ey R C s.1 q) b then _ else _)=_
   cases hbe:beR (Ey R C s.1 p) (Ey R C s.1 q) b with
   | true=>rw [A4q,A5d rfl]; rfl
   | false =>
     have iS:Af (Lz (G0 (Iz (Ey R C s.1 p) (Ey R C s.1 q))))=true:=Eu _ _
     have iC:Af (Mz (G0 (Iz (Ey R C s.1 p) (Ey R C s.1 q))))=true:=Ji _ _
     have iS':Af (Lz (G0 (Iz (Cn (C:Int) s.1 (p:Int) 0 R) (Cn (C:Int) s.1 (q:Int) 0 R))))=true:=iS
     have iC':Af (Mz (G0 (Iz (Cn (C:Int) s.1 (p:Int) 0 R) (Cn (C:Int) s.1 (q:Int) 0 R))))=true:=iC
     rw [A4u,iS',A4q,hr,hs.1.2,iC',Oz iS',cq,A4w,A4w,A4w,A4w,A4q,A4q,hv,hs.2.2,A4w,A4w,A4q,A5c (by decide)]
     rfl
theorem Arm (hN:6<N):∀ (d p F:Nat) (s:List Int × List Int × Bool),p+d=C→d<F→H5 R C s →
 Ao.round.L0 N F (R:Int) (C:Int) (C:Int) (C:Int) b (p:Int) s.2.2 s.1 s.2.1 =
  some (.tup [.agg [.int .i64 (R:Int),.int .i64 (C:Int),.ints .arg .u64 (Go.Rnd.M6 beR R C b d p s).1],.agg [.int .i64 (C:Int),.int .i64 (C:Int),.ints .arg .u64 (Go.Rnd.M6 beR R C b d p s).2.1],.bool (Go.Rnd.M6 beR R C b d p s).2.2]):=by
 intro d
 induction d with
 | zero =>
   intro p F s hp hF hs
   obtain ⟨F,rfl⟩:∃ G,F=G+1:=⟨F-1,by omega⟩
   rw [Ao.round.Au,Av,A4v (by omega),A4u]
   rfl
 | succ d ih =>
   intro p F s hp hF hs
   obtain ⟨F,rfl⟩:∃ G,F=G+1:=⟨F-1,by omega⟩
   have h2:=Arl r6 c6 hb N (M0:=F) (p:=p) (C-(p+1)) (p+1) N s (by omega) (by omega) (by omega) hs
   rw [Ao.round.Au,Av,A4r (by omega),A4q,An (by omega) (by omega)]
   refine h2.trans ?_
   exact ih (p+1) F (Pd beR R C b p (C-(p+1)) (p+1) s) (by omega) (by omega) (H5.Pd _ _ hs)
end
theorem Ao.round.known:Ao.round.Kn:=Ao.round.Ad (.cons A6.Dn.known (.cons Am.Ru.known (.cons D0.Gz.known (.cons Ao.be.known (.cons Ao.Cr.known .nil))))) fun r c l p q m b hp=>by
 obtain ⟨h1,hp⟩:=Ac.1 (show ((A3 r c l&&A3 p q m)&&((Aj l&&Aj m)&&(Af b&&B3 (p=c∧q=c))))=true from hp)
 obtain ⟨hr,hv⟩:=Ac.1 h1
 obtain ⟨h2,hp⟩:=Ac.1 hp
 obtain ⟨al,am⟩:=Ac.1 h2
 obtain ⟨hb,hp⟩:=Ac.1 hp
 obtain ⟨rfl,rfl⟩:=Aq.1 hp
 obtain ⟨R,C,rfl,rfl,r6,c6,hl⟩:=Cu hr
 have hm:m.length=C*C:=by
  obtain ⟨_,_,hm⟩:=G2.1 hv
  rw [← A5b] at hm; omega
 refine ⟨8,_,[],(Ao.round.ev ..).trans (Arm r6 c6 hb 8 (by decide) C 0 8 (l,m,true) (by omega) (by omega) ⟨⟨hl,al⟩,hm,am⟩),?_⟩
 exact Wk.Hs (.cons (Wk.Hc (.cons .int (.cons .int (.cons .W1 .nil)))) (.cons (Wk.Hc (.cons .int (.cons .int (.cons .W1 .nil)))) (.cons .bool .nil)))
theorem Ajt {l y:List Int} {k:Int} {i:Nat} (hy:y.length=l.length) (hi:i<l.length) :
 List.set (((l.take i).map fun b=>Bf b k)++y.drop i) i (Bf (l.getD i 0) k)=((l.take (i+1)).map fun b=>Bf b k)++y.drop (i+1):=by
 rw [Uo hi,List.append_assoc]
 have hl:((l.take i).map fun b=>Bf b k).length=i:=by rw [A5w,List.length_take]; omega
 rw [List.drop_eq_getElem_cons (show i<y.length by omega),List.set_append_right _ _ (by omega),hl,Nat.sub_self]
 rfl
theorem Ag7 (N:Nat) {r c:Int} {x y:List Int} {e:Int} (hx:B4 x=true) (hy:y.length=x.length) (he:-2300≤e∧e≤2300):∀ (k i F:Nat),i+k=x.length→k<F →
 Ao.Be.L0 N F r c x e (i:Int) (((x.take i).map fun b=>Bf b e)++y.drop i)=some (.agg [.int .i64 r,.int .i64 c,.ints (.own 106002 tB) .u64 (Bh x e)]):=by
 obtain ⟨hl,hu⟩:=I4 hx
 intro k
 induction k with
 | zero =>
   intro i F hi hF
   obtain ⟨F,rfl⟩:∃ G,F=G+1:=⟨F-1,by omega⟩
   rw [Ao.Be.Au,Av,A4v (by omega),A4u,List.take_of_length_le (by omega),A44 (by omega),List.append_nil]; rfl
 | succ k ih =>
   intro i F hi hF
   obtain ⟨F,rfl⟩:∃ G,F=G+1:=⟨F-1,by omega⟩
   have ln:(((x.take i).map fun b=>Bf b e)++y.drop i).length=x.length:=by rw [A5i,A5w,List.length_take,List.length_drop]; omega
   rw [Ao.Be.Au,Av,A4r (show (i:Int)<(x.length:Int) by omega),A4q,A4r (show (0:Int)≤(i:Int) by omega),A4w,A4q,A4s,
    show Dd (getD x i 0) e=true from Ac.2 ⟨hu i (by omega),Aq.2 he⟩,A4q,ln,A4r (show (i:Int)<(x.length:Int) by omega),A4w,A4q,A4r (show i<x.length by omega),A4q,Ajt hy (by omega),An (by omega) (by omega)]
   exact ih (i+1) F (by omega) (by omega)
theorem Ao.Be.known:Ao.Be.Kn:=Ao.Be.Ad (.cons Ah.Br.known (.cons Am.A9.own.known .nil)) fun r c x k hp=>by
 obtain ⟨hr,hp⟩:=Ac.1 (show (A3 r c x&&(Aj x&&B3 (-2300≤k∧k≤2300)))=true from hp)
 obtain ⟨al,hp⟩:=Ac.1 hp
 have he:=Aq.1 hp
 obtain ⟨R,C,rfl,rfl,r6,c6,hl⟩:=Cu hr
 have rc:R*C≤36:=A5m r6 c6
 refine ⟨x.length+1,.agg [.int .i64 (R:Int),.int .i64 (C:Int),.ints (.own 106002 tB) .u64 (Bh x k)],[106002],?_,Wk.Hc (.cons .int (.cons .int (.cons (.dropA _ _ _ _ (List.mem_singleton.2 rfl)) .nil)))⟩
 rw [Ao.Be.ev,Ml r6,Ml c6,A4w,A4q,A4s,A4s]
 exact Ag7 (x.length+1) (y:=B8 R C fun _ _=>0) (Gi al (by omega)) (by rw [Cd,hl]) he x.length 0 (x.length+1) (by omega) (by omega)
theorem Ag8 {R C:Nat} {l:List Int} (r6:R≤6) (c6:C≤6) (hr:A3 (R:Int) (C:Int) l=true) (al:Aj l=true) (N:Nat):∀ (d k F:Nat),k+d=C→d<F →
 Ao.Gf.L0 N F (R:Int) (C:Int) l (k:Int) ((List.range k).map fun c=>B6 (Ey R C l c))=some (.ints (.own 100003 tB) .u64 (Cf R C l)):=by
 intro d
 induction d with
 | zero =>
   intro k F hk hF
   obtain ⟨F,rfl⟩:∃ G,F=G+1:=⟨F-1,by omega⟩
   obtain rfl:k=C:=by omega
   rw [Ao.Gf.Au,Av,A4v (by omega),A4u]
   rfl
 | succ d ih =>
   intro k F hk hF
   obtain ⟨F,rfl⟩:∃ G,F=G+1:=⟨F-1,by omega⟩
   have cp:(Hh (R:Int) (C:Int) l (k:Int)&&B3 (0≤(0:Int)∧(0:Int)≤(R:Int)))=true:=Ac.2 ⟨Ac.2 ⟨hr,Aq.2 (by omega)⟩,Aq.2 (by omega)⟩
   have ok:B4 (Cn (C:Int) l (k:Int) 0 R)=true:=Gi (Ot al) (by rw [Fs]; omega)
   rw [Ao.Gf.Au,Av,A4r (by omega),A4q,cp,A4q,show toNat ((R:Int)-(0:Int))=R by omega,ok,A4q,A4r (by rw [A5w,A5t]; unfold G8; omega),A4q,An (by omega) (by omega)]
   have:=ih (k+1) F (by omega) (by omega)
   rw [List.range_succ,List.map_append] at this
   exact this
theorem Ao.Gf.known:Ao.Gf.Kn:=Ao.Gf.Ad (.cons Ah.Norm.known (.cons Am.Ru.known .nil)) fun r c l hp=>by
 obtain ⟨hr,al⟩:=Ac.1 (show (A3 r c l&&Aj l)=true from hp)
 obtain ⟨R,C,rfl,rfl,r6,c6,hl⟩:=Cu hr
 exact ⟨8,.ints (.own 100003 tB) .u64 (Cf R C l),[100003],(Ao.Gf.ev ..).trans (Ag8 r6 c6 hr al 8 C 0 8 (by omega) (by omega)),.drop _ _ _ _ (List.mem_singleton.2 rfl)⟩
open EqRef19
section
variable {l o:List Int} (hl:B4 l=true) (hin:Jh l.length o=true) (h6:o.length≤6) (N:Nat)
include h6
theorem Akc {M0 i:Nat} (hi:i<10):∀ (d k F:Nat) (acc:List Int),k+d=o.length→d<F→acc.length+d≤20 →
 Ao.order.L1 N M0 F l (i:Int) o true (k:Int) acc=Ao.order.L0 N M0 l ((i+1:Nat):Int) (acc++o.drop k):=by
 intro d
 induction d with
 | zero =>
   intro k F acc hk hF ha
   obtain ⟨F,rfl⟩:∃ G,F=G+1:=⟨F-1,by omega⟩
   rw [Ao.order.Ch,Av,A4v (by omega),A4u,A5p,A4u,An (by omega) (by omega),A44 (by omega),List.append_nil]
   rfl
 | succ d ih =>
   intro k F acc hk hF ha
   obtain ⟨F,rfl⟩:∃ G,F=G+1:=⟨F-1,by omega⟩
   have hd:o.drop k=o.getD k 0::o.drop (k+1):=by
    rw [List.drop_eq_getElem_cons (by omega),A40,A47 (by omega)]; rfl
   rw [Ao.order.Ch,Av,A4r (by omega),A4q]
   simp only [Bool.true_or,A4q,A5p,Bool.false_and,A4u,A4s]
   rw [A4r (show (0:Int)≤(k:Int) by omega),A4w,A4q,A4r (show k<o.length by omega),A4q,A4r (show acc.length+1≤G8 by unfold G8; omega),A4q,An (by omega) (by omega),hd]
   have:=ih (k+1) F (acc++[o.getD k 0]) (by omega) (by omega) (by rw [A5i,List.length_singleton]; omega)
   rw [List.append_assoc] at this
   exact this
include hl hin
theorem Arz {M0 i:Nat} (hi:i<l.length) (hi6:i<10):∀ (d k F:Nat) (acc:List Int),k+d=o.length→d<F→acc.length+d≤10 →
 Ao.order.L1 N M0 F l (i:Int) o false (k:Int) acc=Ao.order.L0 N M0 l ((i+1:Nat):Int) (acc++Pe (Lr l) (i:Int) (o.drop k)):=by
 obtain ⟨_,hu⟩:=I4 hl
 intro d
 induction d with
 | zero =>
   intro k F acc hk hF ha
   obtain ⟨F,rfl⟩:∃ G,F=G+1:=⟨F-1,by omega⟩
   rw [Ao.order.Ch,Av,A4v (by omega),A4u,A59,A4q,A4r (show acc.length+1≤G8 by unfold G8; omega),A4q,An (by omega) (by omega),A44 (by omega)]
   rfl
 | succ d ih =>
   intro k F acc hk hF ha
   obtain ⟨F,rfl⟩:∃ G,F=G+1:=⟨F-1,by omega⟩
   have hd:o.drop k=o.getD k 0::o.drop (k+1):=by
    rw [List.drop_eq_getElem_cons (by omega),A40,A47 (by omega)]; rfl
   have p:=Sp hin (j:=k) (by omega)
   have a1:decide ((0:Int)≤(k:Int))=true:=A4r (by omega)
   have a2:decide ((k:Int)<((o.length:Nat):Int))=true:=A4r (by omega)
   have a3:decide (k<o.length)=true:=A4r (by omega)
   have a4:decide (acc.length+1≤G8)=true:=A4r (by unfold G8; omega)
   have a5:decide ((acc++[(i:Int)]).length+1≤G8)=true:=A4r (by rw [A5i,List.length_singleton]; unfold G8; omega)
   have a6:decide ((i:Int)<((l.length:Nat):Int))=true:=A4r (by omega)
   have a7:decide ((0:Int)≤(i:Int))=true:=A4r (by omega)
   have u1:Af (getD l i 0)=true:=hu i hi
   have u2:Af (getD l (o.getD k 0).toNat 0)=true:=hu _ (by omega)
   rw [Ao.order.Ch,Av,a2,A4q]
   simp only [Bool.false_or,A4s,A59,A53]
   rw [a1,a7,a6,A4w,A4q,A4q,a3,A4q,A4r p.1,A4r p.2,A4w,A4q,u1,u2,A4w,A4q,a4,a5,An (by omega) (by omega),hd]
   unfold Pe
   show (bif Fx (Lr l (i:Int)) (Lr l (o.getD k 0)) then _ else _)=_
   cases hm:Fx (Lr l (i:Int)) (Lr l (o.getD k 0)) with
   | true =>
     simp only [A4q,if_true]
     have:=Akc h6 N (l:=l) (M0:=M0) hi6 d (k+1) F ((acc++[(i:Int)])++[o.getD k 0]) (by omega) (by omega) (by simp; omega)
     rw [List.append_assoc,List.append_assoc] at this
     rw [List.append_assoc]
     exact this
   | false =>
     simp only [A4q,A4u]
     rw [A5c (by decide)]
     have:=ih (k+1) F (acc++[o.getD k 0]) (by omega) (by omega) (by rw [A5i,List.length_singleton]; omega)
     rw [List.append_assoc] at this
     exact this
end
theorem Apj (key:Int→Int) (x:List Int):∀ acc:List Int,(x.foldl (fun acc x=>Pe key x acc) acc).length=acc.length+x.length:=by
 induction x with
 | nil=>intro acc; rfl
 | cons y t ih=>intro acc; rw [List.foldl_cons,ih,Yt,List.length_cons]; omega
theorem Ar0 {l:List Int} (hl:B4 l=true) (h6:l.length≤6) (N:Nat) (hN:8<N):∀ (d i F:Nat),i+d=l.length→d<F →
 Ao.order.L0 N F l (i:Int) ((Le i).foldl (fun acc x=>Pe (Lr l) x acc) [])=some (.ints (.own 100003 tI) .i64 (Fp l)):=by
 intro d
 induction d with
 | zero =>
   intro i F hi hF
   obtain ⟨F,rfl⟩:∃ G,F=G+1:=⟨F-1,by omega⟩
   obtain rfl:i=l.length:=by omega
   rw [Ao.order.Au,Av,A4v (by omega),A4u]
   rfl
 | succ d ih =>
   intro i F hi hF
   obtain ⟨F,rfl⟩:∃ G,F=G+1:=⟨F-1,by omega⟩
   have ln:((Le i).foldl (fun acc x=>Pe (Lr l) x acc) []).length=i:=by rw [Apj,Qh]; simp
   have hin:Jh l.length ((Le i).foldl (fun acc x=>Pe (Lr l) x acc) [])=true:=J0.2 fun z hz=>by
    rcases (Adu _ _).1 hz with h | h
    ·cases h
    ·have:=J0.1 (Zi i) z h; omega
   have g:=Arz hl hin (by omega) N (M0:=F) (i:=i) (by omega) (by omega) i 0 N [] (by omega) (by omega) (by simp; omega)
   rw [Ao.order.Au,Av,A4r (by omega),A4q]
   refine g.trans ?_
   have:=ih (i+1) F (by omega) (by omega)
   rw [show Le (i+1)=Le i++[(i:Int)] by unfold Le; rw [List.range_succ,List.map_append]; rfl,List.foldl_append] at this
   exact this
theorem Ao.order.known:Ao.order.Kn:=Ao.order.Ad (.cons Ao.F3.known .nil) fun l hp=>by
 obtain ⟨hl,h6⟩:=Ac.1 (show (B4 l&&B3 (length l≤6))=true from hp)
 have h6:=Aq.1 h6
 exact ⟨9,.ints (.own 100003 tI) .i64 (Fp l),[100003],(Ao.order.ev ..).trans (Ar0 hl h6 9 (by decide) l.length 0 9 (by omega) (by omega)),.drop _ _ _ _ (List.mem_singleton.2 rfl)⟩
section
variable {R C:Nat} {l x:List Int} (r6:R≤6) (c6:C≤6) (hl:l.length=R*C) (hx:x.length=C) (hin:Jh C x=true) (N:Nat) {F:Nat→Nat→Int} (hF:F=fun (i k:Nat)=>D8 (C:Int) l (i:Int) (x.getD k 0))
include r6 c6 hl hx hin hF
theorem Aw1 {M0 i:Nat} (hi:i<R):∀ (d k M:Nat),k+d=C→d<M →
 E2.Dc.L1 N M0 M (R:Int) (C:Int) l x (k:Int) (fill R C F (dR i k)) (i:Int)=E2.Dc.L0 N M0 (R:Int) (C:Int) l x ((i+1:Nat):Int) (fill R C F (dR (i+1) 0)):=by
 intro d
 induction d with
 | zero =>
   intro k M hk hM
   obtain ⟨M,rfl⟩:∃ G,M=G+1:=⟨M-1,by omega⟩
   have e:fill R C F (dR i k)=fill R C F (dR (i+1) 0):=Abj fun a b ha hb=>by simp only [dR,A4x]; omega
   rw [E2.Dc.Ch,Av,A4v (by omega),A4u,An (by omega) (by omega),e]
   rfl
 | succ d ih =>
   intro k M hk hM
   obtain ⟨M,rfl⟩:∃ G,M=G+1:=⟨M-1,by omega⟩
   have p:=Sp hin (j:=k) (by omega)
   obtain ⟨j,hj⟩:∃ j:Nat,x.getD k 0=j:=⟨(x.getD k 0).toNat,by omega⟩
   have c1:Em (R:Int) (C:Int) l (i:Int) (x.getD k 0)=true:=by rw [hj]; exact Fa r6 c6 hl hi (by omega)
   have c9:Em (R:Int) (C:Int) (fill R C F (dR i k)) (i:Int) (k:Int)=true:=Fa r6 c6 (Pr _ _ _ _) hi (by omega)
   rw [E2.Dc.Ch,Av,hx,A4r (show (k:Int)<(C:Int) by omega),A4q,A4r (show (0:Int)≤(k:Int) by omega),A4w,A4q,show toNat ((k:Nat):Int)=k from A4s k,c1,A4q,c9,A4q,An (x:=(k:Int)+1) (by omega) (by omega),
    Wv (d':=dR i (k+1)) (by omega) (by rw [hF]) (fun a b ha hb=>by simp only [dR,A4x]; omega)]
   exact ih (k+1) M (by omega) (by omega)
theorem Aw2 (hN:6<N):∀ (d i M:Nat),i+d=R→d<M →
 E2.Dc.L0 N M (R:Int) (C:Int) l x (i:Int) (fill R C F (dR i 0))=some (.agg [.int .i64 (R:Int),.int .i64 (C:Int),.ints .arg .u64 (B8 R C F)]):=by
 intro d
 induction d with
 | zero =>
   intro i M hi hM
   obtain ⟨M,rfl⟩:∃ G,M=G+1:=⟨M-1,by omega⟩
   rw [E2.Dc.Au,Av,A4v (by omega),A4u,hx,Abk (fun a b ha hb=>by simp only [dR,A4x]; omega)]
 | succ d ih =>
   intro i M hi hM
   obtain ⟨M,rfl⟩:∃ G,M=G+1:=⟨M-1,by omega⟩
   rw [E2.Dc.Au,Av,A4r (by omega),A4q]
   exact (Aw1 r6 c6 hl hx hin N hF (show i<R by omega) C 0 N (by omega) (by omega)).trans (ih (i+1) M (by omega) (by omega))
end
theorem E2.Dc.known:E2.Dc.Kn:=E2.Dc.Ad (.cons Am.At.known (.cons Am.Hj.arg.known (.cons Am.A9.arg.known .nil))) fun r c l x hp=>by
 obtain ⟨hr,hp⟩:=Ac.1 (show (A3 r c l&&B3 (((length x:Nat):Int)=c∧Jh (toNat c) x=true))=true from hp)
 obtain ⟨hx,hin⟩:=Aq.1 hp
 obtain ⟨R,C,rfl,rfl,r6,c6,hl⟩:=Cu hr
 rw [A4s] at hin
 have hx:x.length=C:=by omega
 refine ⟨8,.agg [.int .i64 (R:Int),.int .i64 (C:Int),.ints .arg .u64 (Cq R C l x)],[],?_,?_⟩
 ·rw [E2.Dc.ev,hx,Ml r6,Ml c6,A4w,A4q,A4s,A4s]
  have:=Aw2 r6 c6 hl hx hin 8 (F:=fun (i k:Nat)=>D8 (C:Int) l (i:Int) (x.getD k 0)) rfl (by decide) R 0 8 (by omega) (by omega)
  rw [Tu (fun a b ha hb=>by simp only [dR,A4x]; omega)] at this
  exact this
 ·exact Wk.Hc (.cons .int (.cons .int (.cons .W1 .nil)))
section
variable {R C:Nat} {l:List Int} (r6:R≤6) (c6:C≤6) (N:Nat)
include r6 c6
theorem Avl {k:Int} {p4 w v:List Int} (hb:Af (Bf (B6 p4) (-44:Int))=true):∀ (m F:Nat) (w v:List Int),m≤60→m+1<F→H5 R C (w,v,true) →
 Ao.Az.L0 N F (R:Int) (C:Int) k p4 false ((60-m:Nat):Int) w v =
  Ao.Az.C10 N (R:Int) (C:Int) k (decide ((Ee R C (Bf (B6 p4) (-44)) m w v).2.2=0)) (Ee R C (Bf (B6 p4) (-44)) m w v).1 (Ee R C (Bf (B6 p4) (-44)) m w v).2.1:=by
 intro m
 induction m with
 | zero =>
   intro F w v hm hF hs
   obtain ⟨F,rfl⟩:∃ G,F=G+1:=⟨F-1,by omega⟩
   rw [Ao.Az.Au,Av,A4v (by omega),Bool.false_and,A4u]
   rfl
 | succ m ih =>
   intro F w v hm hF hs
   obtain ⟨F,rfl⟩:∃ G,F=G+1:=⟨F-1,by omega⟩
   have pre:((A3 (R:Int) (C:Int) w&&A3 (C:Int) (C:Int) v)&&((Aj w&&Aj v)&&(Af (Bf (B6 p4) (-44:Int))&&B3 ((C:Int)=(C:Int)∧(C:Int)=(C:Int)))))=true:=by
    rw [Ew r6 c6 hs.1.1,Ew c6 c6 hs.2.1,hs.1.2,hs.2.2,hb,Aq.2 ⟨rfl,rfl⟩]; rfl
   have g:H5 R C (Ju R C (Bf (B6 p4) (-44)) w v):=H5.M6 C 0 hs
   rw [Ao.Az.Au,Av,A4r (by omega),A59,A4w,A4q,pre,A4q]
   simp only [A4s]
   rw [Aj1,An (by omega) (by omega),show (((60-(m+1):Nat):Int)+1)=((60-m:Nat):Int) by omega]
   show _=Ao.Az.C10 N (R:Int) (C:Int) k (decide ((Ee R C (Bf (B6 p4) (-44)) (m+1) w v).2.2=0)) (Ee R C (Bf (B6 p4) (-44)) (m+1) w v).1 (Ee R C (Bf (B6 p4) (-44)) (m+1) w v).2.1
   unfold Ee
   cases he:(Ju R C (Bf (B6 p4) (-44)) w v).2.2 with
   | true =>
     obtain ⟨F,rfl⟩:∃ G,F=G+1:=⟨F-1,by omega⟩
     rw [Ao.Az.Au,A5p,Bool.and_false,A4u]
     simp only [if_true,decide_true]
   | false =>
     rw [A5c (by decide)]
     exact ih F (Ju R C (Bf (B6 p4) (-44)) w v).1 (Ju R C (Bf (B6 p4) (-44)) w v).2.1 (by omega) (by omega) ⟨g.1,g.2⟩
end
theorem Aef {drops:List Nat} {e:Int}:Wk drops (.agg [.int .i64 (0:Int),.int .i64 (0:Int),.nil,.int .i64 (0:Int),.int .i64 (0:Int),.nil,.nil,.int .i64 e])
 (.agg [.int .i64 (0:Int),.int .i64 (0:Int),.ints .arg .u64 [],.int .i64 (0:Int),.int .i64 (0:Int),.ints .arg .u64 [],.ints .fresh .u64 [],.int .i64 e]) :=
 Wk.Hc (.cons .int (.cons .int (.cons (.nil _ _) (.cons .int (.cons .int (.cons (.nil _ _) (.cons (.nil _ _) (.cons .int .nil))))))))
theorem Aez {r c:Int} {l:List Int} {e:Int} (h:Jn r c l=e) (he:e≠0):Ao.Az.out [.i r,.i c,.l l] =
 .agg [.int .i64 (0:Int),.int .i64 (0:Int),.ints .arg .u64 [],.int .i64 (0:Int),.int .i64 (0:Int),.ints .arg .u64 [],.ints .fresh .u64 [],.int .i64 e]:=by
 show DV.agg [.int .i64 (F9 r c l).1,.int .i64 (F9 r c l).2.1,.ints .arg .u64 (F9 r c l).2.2.1,.int .i64 (Gt r c l).1,.int .i64 (Gt r c l).2.1,.ints .arg .u64 (Gt r c l).2.2.1,.ints .fresh .u64 (Xa r c l),.int .i64 (Jn r c l)]=_
 unfold F9 Gt Xa
 rw [h,A5d he,A5d he,A5d he]
 rfl
theorem Ard {R C:Nat} {l:List Int} (h:Jn (R:Int) (C:Int) l=0):Ao.Az.out [.i (R:Int),.i (C:Int),.l l] =
 .agg [.int .i64 (R:Int),.int .i64 (C:Int),.ints .arg .u64 (L6 R C l),.int .i64 (C:Int),.int .i64 (C:Int),.ints .arg .u64 (Nx R C l),.ints .fresh .u64 (Cf R C (L6 R C l)),.int .i64 0]:=by
 show DV.agg [.int .i64 (F9 (R:Int) (C:Int) l).1,.int .i64 (F9 (R:Int) (C:Int) l).2.1,.ints .arg .u64 (F9 (R:Int) (C:Int) l).2.2.1,.int .i64 (Gt (R:Int) (C:Int) l).1,.int .i64 (Gt (R:Int) (C:Int) l).2.1,.ints .arg .u64 (Gt (R:Int) (C:Int) l).2.2.1,.ints .fresh .u64 (Xa (R:Int) (C:Int) l),.int .i64 (Jn (R:Int) (C:Int) l)]=_
 unfold F9 Gt Xa
 rw [h,A5c (by decide),A5c (by decide),A5c (by decide)]
 rfl
theorem Auu {R C:Nat} {w:List Int} (r6:R≤6):(∀ x∈Cf R C w,Ai x.toNat≠4)∨∃ k,k<C∧D2 (Ey R C w k)=false:=by
 by_cases h:∃ k,k<C∧D2 (Ey R C w k)=false
 ·exact .inr h
 ·refine .inl fun x hx=>?_
  obtain ⟨k,hk,rfl⟩:=List.mem_map.1 hx
  have hk:=List.mem_range.1 hk
  refine Ar8 ?_ (by show (Cn _ _ _ _ _).length≤6; rw [Fs]; exact r6)
  cases hf:D2 (Ey R C w k) with
  | true=>rfl
  | false=>exact absurd ⟨k,hk,hf⟩ h
section
variable {R C:Nat} {l:List Int} (r6:R≤6) (c6:C≤6) (hl:l.length=R*C) (al:Aj l=true) (N:Nat) (hc:Cj (R:Int) (C:Int) l=0)
include r6 c6 hl al hc
theorem Are (he:(Eg R C l).2.2=0):∃ dv,Ao.Az.C12 N (R:Int) (C:Int) (Ga l) (Eg R C l).1 (Eg R C l).2.1=some dv∧Wk [] dv (Ao.Az.out [.i (R:Int),.i (C:Int),.l l]):=by
 have hi:H5 R C ((Eg R C l).1,(Eg R C l).2.1,true):=H5.Ee 60 (Q1 hl al)
 have rc:R*C≤36:=A5m r6 c6
 have cc:C*C≤36:=A5m c6 c6
 have ek:=U6 (Bw l)
 have ln:=Uv R C (Eg R C l).1
 have n1:(B4 (Cf R C (Eg R C l).1)&&B3 (length (Cf R C (Eg R C l).1)≤6))=true:=Ac.2 ⟨Gi (Adf ..) (by omega),Aq.2 (by omega)⟩
 have lo:(Fp (Cf R C (Eg R C l).1)).length=C:=by rw [Akd,ln]
 have ps:B3 (((length (Fp (Cf R C (Eg R C l).1)):Nat):Int)=(C:Int)∧Jh C (Fp (Cf R C (Eg R C l).1))=true)=true:=Aq.2 ⟨by rw [lo],by
  have:=Aol (Cf R C (Eg R C l).1)
  rw [ln] at this; exact this⟩
 have hG:Aj (Cq R C (Eg R C l).1 (Fp (Cf R C (Eg R C l).1)))=true:=K2 hi.1.2
 have hW:Aj (Bh (Cq R C (Eg R C l).1 (Fp (Cf R C (Eg R C l).1))) (Ga l))=true:=Xg hG
 have hV:Aj (Cq C C (Eg R C l).2.1 (Fp (Cf R C (Eg R C l).1)))=true:=K2 hi.2.2
 have ck:B3 (-2300≤Ga l∧Ga l≤2300)=true:=Aq.2 (by unfold Ga; omega)
 have oW:B4 (Bh (Cq R C (Eg R C l).1 (Fp (Cf R C (Eg R C l).1))) (Ga l))=true:=Gi hW (by rw [Kw,F5]; omega)
 have oV:B4 (Cq C C (Eg R C l).2.1 (Fp (Cf R C (Eg R C l).1)))=true:=Gi hV (by rw [F5]; omega)
 have eE:Jn (R:Int) (C:Int) l=if (D2 (L6 R C l)&&D2 (Nx R C l))=true then 0 else 2:=by
  unfold Jn
  rw [A5c (by rw [hc]; decide),A4s,A4s,A5c (by rw [he]; decide)]
 have e15:Ao.Az.C12 N (R:Int) (C:Int) (Ga l) (Eg R C l).1 (Eg R C l).2.1 =
  Ao.Az.C15 N (R:Int) (C:Int) (Bh (Cq R C (Eg R C l).1 (Fp (Cf R C (Eg R C l).1))) (Ga l)) (Cq C C (Eg R C l).2.1 (Fp (Cf R C (Eg R C l).1))):=by
  rw [Ao.Az.Ab8]
  simp only [A4s]
  rw [Ew r6 c6 hi.1.1,hi.1.2,A4w,A4q,n1,A4q,ps,A4w,A4q,Ew r6 c6 (F5 R C (Eg R C l).1 (Fp (Cf R C (Eg R C l).1))),hG,ck,A4w,A4w,A4q,Ew c6 c6 hi.2.1,A4w,A4q]
 rw [e15,Ao.Az.Alh,oW,A4q,oV,A52,A4q]
 rcases Auu (w:=(Eg R C l).1) r6 (C:=C) with hn | ⟨k,hk,hf⟩
 ·have eo:Fp (Cf R C (Eg R C l).1)=Aqk R C l:=by rw [Akb hn,ln]; rfl
  rw [eo]
  rw [show Bh (Cq R C (Eg R C l).1 (Aqk R C l)) (Ga l)=L6 R C l from rfl,show Cq C C (Eg R C l).2.1 (Aqk R C l)=Nx R C l from rfl]
  rw [eo] at hW
  by_cases hf:(D2 (L6 R C l)&&D2 (Nx R C l))=true
  ·have hf':=Ac.1 hf
   rw [hf'.1,hf'.2]
   rw [A5d hf] at eE
   have rW:A3 (R:Int) (C:Int) (L6 R C l)=true:=Ew r6 c6 (by unfold L6; rw [Kw,F5])
   refine ⟨.agg [.int .i64 (R:Int),.int .i64 (C:Int),.ints .arg .u64 (L6 R C l),.int .i64 (C:Int),.int .i64 (C:Int),.ints .arg .u64 (Nx R C l),.ints .fresh .u64 (Cf R C (L6 R C l)),.int .i64 0],?_,?_⟩
   ·rw [A5p,Bool.or_self,A4u,Ao.Az.Az6,rW,show Aj (L6 R C l)=true from hW,A4w,A4q]
    simp only [A4s]
   ·rw [Ard eE]
    exact Wk.Hc (.cons .int (.cons .int (.cons .W1 (.cons .int (.cons .int (.cons .W1 (.cons .O4 (.cons .int .nil))))))))
  ·rw [A5c hf] at eE
   refine ⟨_,?_,by rw [Aez eE (by decide)]; exact Aef⟩
   have:((!(D2 (L6 R C l)))||(!(D2 (Nx R C l))))=true:=by
    revert hf
    cases D2 (L6 R C l)<;>cases D2 (Nx R C l)<;>simp
   rw [this,A4q]
 ·have f1:D2 (Bh (Cq R C (Eg R C l).1 (Fp (Cf R C (Eg R C l).1))) (Ga l))=false:=Abg (k:=k) (Aak.2 (by rw [ln]; exact Ahj hk)) lo hf _
  have f2:D2 (L6 R C l)=false:=Abg (k:=k) (Ans (Ahj hk)) (by rw [Ac2,Qh]) hf _
  rw [f2,Bool.false_and,A5c (by decide)] at eE
  refine ⟨_,?_,by rw [Aez eE (by decide)]; exact Aef⟩
  rw [f1,A59,Bool.true_or,A4q]
end
theorem Ao.Az.known:Ao.Az.Kn:=Ao.Az.Ad (.cons Bq.Lh.known (.cons Ah.Bv.known (.cons Ah.Finite.known (.cons Ah.Norm.known (.cons Ah.Br.known (.cons Am.Ff.arg.known (.cons E2.Dc.known (.cons Ao.Gf.known (.cons Ao.order.known (.cons Ao.round.known (.cons Ao.Be.known .nil))))))))))) fun r c l hp=>by
 obtain ⟨hr,hp⟩:=Ac.1 (show (A3 r c l&&(Aj l&&decide (D2 l=true)))=true from hp)
 obtain ⟨al,hf⟩:=Ac.1 hp
 have hf:=A5g hf
 have hc:Cj r c l=0:=by unfold Cj; rw [A5d hr,A5d hf]
 obtain ⟨R,C,rfl,rfl,r6,c6,hl⟩:=Cu hr
 have rc:R*C≤36:=A5m r6 c6
 have ek:=U6 (Bw l)
 have hS:=Q1 hl al
 have ks:Ab ((0:Int)-Ga l)=-(Ga l):=by
  unfold Ga; rw [An (by omega) (by omega)]; omega
 have c1:B3 (-2300≤-(Ga l)∧-(Ga l)≤2300)=true:=Aq.2 (by unfold Ga; omega)
 have sp:Dd (B6 (Bh l (-(Ga l)))) (-44:Int)=true:=Ac.2 ⟨Ks _,Aq.2 (by decide)⟩
 have o2:B4 (Bh l (-(Ga l)))=true:=Gi hS.1.2 (by rw [Kw]; omega)
 have chain:B0 Ao.Az.E 62 Tryz.f37 (Ak Tryz.f37) [.agg [.int .i64 (R:Int),.int .i64 (C:Int),.ints .arg .u64 l]] =
  Ao.Az.C10 62 (R:Int) (C:Int) (Ga l) (decide ((Eg R C l).2.2=0)) (Eg R C l).1 (Eg R C l).2.1:=by
  rw [Ao.Az.ev,Gi al (by omega),A4q,P5,A4q]
  show Ao.Az.C2 62 (R:Int) (C:Int) l (Ga l)=_
  rw [Ao.Az.Ajb,ks,hr,al,c1,A4w,A4w,A4q,Ml c6,A4q,Ao.Az.Aum,o2,A4q,sp,A4q,A4s]
  exact Avl r6 c6 62 (k:=Ga l) (p4:=Bh l (-(Ga l))) (w:=[]) (v:=[]) (Ha (Ks _)) 60 62 (Bh l (-(Ga l))) (Ni C) (by decide) (by decide) hS
 rcases Xj (R:=R) (n:=C) (low:=Bf (B6 (Bh l (-(Ga l)))) (-44)) 60 (Bh l (-(Ga l))) (Ni C) with he | he
 ·have he:(Eg R C l).2.2=0:=he
  obtain ⟨dv,h1,h2⟩:=Are r6 c6 hl al 62 hc he
  refine ⟨62,dv,[],chain.trans ?_,h2⟩
  rw [he,A4r rfl,Ao.Az.Aun,A5p,A4u]
  exact h1
 ·have he:(Eg R C l).2.2=6:=he
  have hE:Jn (R:Int) (C:Int) l=6:=by
   unfold Jn
   rw [A5c (by rw [hc]; decide),A4s,A4s,A5d (by rw [he]; decide)]
  refine ⟨62,_,[],chain.trans ?_,by show Wk _ _ (Ao.Az.out [.i (R:Int),.i (C:Int),.l l]); rw [Aez hE (by decide)]; exact Aef⟩
  rw [he,A4v (by decide),Ao.Az.Aun,A59,A4q]
namespace EqBes
def Aa.Ek.Ba:List (Nat × Entry):=[(119,Aa.get.spec)]
def Aa.Ek.E:Env:=Bg (Bb Aa.Ek.Ba) (fun _=>false) (fun _=>none) (fun _=>none)
theorem Aa.Ek.ev (N:Nat) (i k:Int) (r c:Int) (l:List Int) (p q:Int) (m:List Int):B0 Aa.Ek.E N f142 (Ak f142) [.int .i64 i,.int .i64 k,.cellp [.int .i64 r,.int .i64 c,.ints .arg .u64 l],.cellp [.int .i64 p,.int .i64 q,.ints .arg .u64 m]]=bif (Bi k c) then bif (Em r c l i k) then some (.int .u64 (D8 c l i k)) else none else bif (Em p q m i (Ab (k-c))) then some (.int .u64 (D8 q m i (Ab (k-c)))) else none:=by kernel_rfl
abbrev _root_.Go.Proofs.S1.Aa.Ek.Kn:=A8 prog 142 Aa.Ek.spec
theorem Aa.Ek.Ad (hk:A1 prog Aa.Ek.Ba) (h:Hyp Aa.Ek.E f142 Aa.Ek.ts Aa.Ek.pre Aa.Ek.out):Aa.Ek.Kn :=
 Al (A4 hk _ _ _) func142 (by kernel_rfl) (by kernel_rfl) h
def Aa.of.Bt.hint:Nat→Option Bc
 | 0=>some { keep:=[1,2,6,7,13,14],objs:=[(8,2,108002,.ints 43 .u64 [])],boxes:=[6,7] }
 | 2=>some { keep:=[1,2,6,7,8,13,14,17,18],objs:=[(8,2,108002,.ints 43 .u64 [])],boxes:=[6,7] }
 | _=>none
def Aa.of.Bt.Ba:List (Nat × Entry):=[(142,Aa.Ek.spec)]
def Aa.of.Bt.E:Env:=Bg (Bb Aa.of.Bt.Ba) (fun _=>false) Aa.of.Bt.hint (fun _=>none)
section
variable (N M0 M:Nat) (a b r c:Int) (l:List Int) (p q:Int) (m:List Int) (p8 p14_1 p18:Int) (p2:List Int) (p14:Int) (p2_1:List Int)
def Aa.of.Bt.L0:Option DV:=Cb Aa.of.Bt.E N f117 (Ak f117) [1,1,0,1,0] [] M ⟨Fo 33 [(1,.int .i64 b),(2,.fn 142 [] [.cellp [.int .i64 r,.int .i64 c,.ints .arg .u64 l],.cellp [.int .i64 p,.int .i64 q,.ints .arg .u64 m]]),(6,.ptr 6 0 0),(7,.ptr 7 0 0),(13,.int .i64 a),(14,.int .i64 p14)],[(6,false,.box [.int .i64 0,.int .i64 0,.nil]),(7,false,.box [.int .i64 a,.int .i64 b,.oref 108002]),(108002,false,.ints 43 .u64 p2_1)]⟩
def Aa.of.Bt.L1:Option DV:=Cb Aa.of.Bt.E N f117 (Ak f117) [1,1,0,1,0,0,1,1,0,0,1,1,0] [M0] M ⟨Fo 33 [(1,.int .i64 b),(2,.fn 142 [] [.cellp [.int .i64 r,.int .i64 c,.ints .arg .u64 l],.cellp [.int .i64 p,.int .i64 q,.ints .arg .u64 m]]),(6,.ptr 6 0 0),(7,.ptr 7 0 0),(8,.int .i64 p8),(13,.int .i64 a),(14,.int .i64 p14_1),(17,.int .i64 b),(18,.int .i64 p18)],[(6,false,.box [.int .i64 0,.int .i64 0,.nil]),(7,false,.box [.int .i64 a,.int .i64 b,.oref 108002]),(108002,false,.ints 43 .u64 p2)]⟩
theorem Aa.of.Bt.Au:Aa.of.Bt.L0 N (M+1) a b r c l p q m p14 p2_1=bif (Bi p14 a) then Aa.of.Bt.L1 N M N a b r c l p q m p14 p14 0 p2_1 else some (.agg [.int .i64 a,.int .i64 b,.ints (.own 108002 43) .u64 p2_1]):=by kernel_rfl
theorem Aa.of.Bt.Ch:Aa.of.Bt.L1 N M0 (M+1) a b r c l p q m p8 p14_1 p18 p2=bif (Bi p18 b) then bif (Oj r c l p q m p8 p18) then bif (decide ((length p2)+1≤G8)) then Aa.of.Bt.L1 N M0 M a b r c l p q m p8 p14_1 (Ab (p18+1)) (p2++[(Er c l q m p8 p18)]) else none else none else Aa.of.Bt.L0 N M0 a b r c l p q m (Ab (p14_1+1)) p2 :=
 Eq.trans (by kernel_rfl)
 (E1 (Cw (Ct _) (Cw (Ct _) rfl rfl) rfl) rfl)
theorem Aa.of.Bt.ev:B0 Aa.of.Bt.E N f117 (Ak f117) [.int .i64 a,.int .i64 b,.fn 142 [] [.cellp [.int .i64 r,.int .i64 c,.ints .arg .u64 l],.cellp [.int .i64 p,.int .i64 q,.ints .arg .u64 m]]] =
 Aa.of.Bt.L0 N N a b r c l p q m 0 []:=by kernel_rfl
end
abbrev _root_.Go.Proofs.S1.Aa.of.Bt.Kn:=A8 prog 117 Aa.of.Bt.spec
theorem Aa.of.Bt.Ad (hk:A1 prog Aa.of.Bt.Ba) (h:Hyp Aa.of.Bt.E f117 Aa.of.Bt.ts Aa.of.Bt.pre Aa.of.Bt.out):Aa.of.Bt.Kn :=
 Al (A4 hk _ _ _) func117 (by kernel_rfl) (by kernel_rfl) h
def Aa.Bt.Ba:List (Nat × Entry):=[(117,Aa.of.Bt.spec),(116,Aa.two.spec)]
def Aa.Bt.E:Env:=Bg (Bb Aa.Bt.Ba) (fun _=>false) (fun _=>none) (fun _=>none)
theorem Aa.Bt.ev (N:Nat) (r c:Int) (l:List Int) (p q:Int) (m:List Int):B0 Aa.Bt.E N f77 (Ak f77) [.agg [.int .i64 r,.int .i64 c,.ints .arg .u64 l],.agg [.int .i64 p,.int .i64 q,.ints .arg .u64 m]]=bif ((Xb r c l p q m) !=(0:Int)) then some (.tup [.agg [.int .i64 0,.int .i64 0,.nil],.int .i64 (Xb r c l p q m)]) else bif ((r !=p)||(Bi 6 (Ab (c+q)))) then some (.tup [.agg [.int .i64 0,.int .i64 0,.nil],.int .i64 3]) else bif ((Bp r&&Bp (Ab (c+q)))&&(A3 r c l&&A3 p q m)&&decide (r=r∧(Ab (c+q))=c+q∧p=r)) then some (.tup [.agg [.int .i64 r,.int .i64 (Ab (c+q)),.ints .fresh .u64 (B8 (toNat r) (toNat (Ab (c+q))) (fun j1 j2=>Er c l q m j1 j2))],.int .i64 0]) else none :=
 Eq.trans (by kernel_rfl)
 (E1 rfl (Ay (T3 (r !=p)) (Ay (Rv (r !=p)) (Ay (T3 (r !=p)) (Ay (Rv (r !=p)) (Ay (tt8 (r !=p)) (Ay (Rv (r !=p)) (Ay (Y5 (r !=p)) (Cw (tt5 _ _) rfl rfl)))))))))
abbrev _root_.Go.Proofs.S1.Aa.Bt.Kn:=A8 prog 77 Aa.Bt.spec
theorem Aa.Bt.Ad (hk:A1 prog Aa.Bt.Ba) (h:Hyp Aa.Bt.E f77 Aa.Bt.ts Aa.Bt.pre Aa.Bt.out):Aa.Bt.Kn :=
 Al (A4 hk _ _ _) func77 (by kernel_rfl) (by kernel_rfl) h
def Am.Bt.Ba:List (Nat × Entry):=[(71,Am.Stack.spec),(14,Am.Cv.spec)]
def Am.Bt.E:Env:=Bg (Bb Am.Bt.Ba) (fun _=>false) (fun _=>none) (fun _=>none)
theorem Am.Bt.ev (N:Nat) (r c:Int) (l:List Int) (p q:Int) (m:List Int):B0 Am.Bt.E N f36 (Ak f36) [.agg [.int .i64 r,.int .i64 c,.ints .arg .u64 l],.agg [.int .i64 p,.int .i64 q,.ints .arg .u64 m]]=bif (A3 r c l) then bif (A3 p q m) then bif ((A3 c r (B8 (toNat c) (toNat r) (fun j1 j2=>D8 c l j2 j1))&&A3 q p (B8 (toNat q) (toNat p) (fun j1 j2=>D8 q m j2 j1)))&&decide (p=r)) then bif (A3 (c+q) r ((B8 (toNat c) (toNat r) (fun j1 j2=>D8 c l j2 j1))++(B8 (toNat q) (toNat p) (fun j1 j2=>D8 q m j2 j1)))) then some (.agg [.int .i64 r,.int .i64 (c+q),.ints .fresh .u64 (B8 (toNat r) (toNat (c+q)) (fun j1 j2=>D8 r ((B8 (toNat c) (toNat r) (fun j1 j2=>D8 c l j2 j1))++(B8 (toNat q) (toNat p) (fun j1 j2=>D8 q m j2 j1))) j2 j1))]) else none else none else none else none :=
 Eq.trans (by kernel_rfl)
 (Cw (Ct _) (Cw (Ct _) (Cw (Ct _) (Cw (Ct _) rfl rfl) rfl) rfl) rfl)
abbrev _root_.Go.Proofs.S1.Am.Bt.Kn:=A8 prog 36 Am.Bt.spec
theorem Am.Bt.Ad (hk:A1 prog Am.Bt.Ba) (h:Hyp Am.Bt.E f36 Am.Bt.ts Am.Bt.pre Am.Bt.out):Am.Bt.Kn :=
 Al (A4 hk _ _ _) func36 (by kernel_rfl) (by kernel_rfl) h
end EqBes
end Go.Proofs.S1
end
