/- A verified evaluator of the program's form and its use for this seat: S1PGgA, S1EqRef21, S1PRef21, S1PRef21A, S1PRef21B, S1EqRefM, S1PRefM, S1EqLaw17, S1PLaw17, S1EqLaw21, S1PLaw21, S1PLaw21Q. -/
import Derived.Test.YtjbokjpbiobjpaaGreatTK
import Derived.Test.YtjbokjpbiobjpaaGreatTE
import Derived.Test.YtjbokjpbiobjpaaGreatTF
import Derived.Test.YtjbokjpbiobjpaaGreatTG
import Derived.Test.YtjbokjpbiobjpaaGreatTJ
set_option linter.unusedVariables false
set_option linter.unusedSimpArgs false
noncomputable section
namespace Go.Proofs.S1
open Go Go.Den Go.Rnd Go.Proofs
open EqGg
theorem Aot {r c:Int} {l:List Int} {p q:Int} {m:List Int} (h:(Vy r c l p q m).2.2.2≠0):Vy r c l p q m=Gd (Vy r c l p q m).2.2.2:=by
  unfold Vy Il at h ⊢
  by_cases k:M4 r c l p q m=0
  · rw [if_neg (fun h=>h k)] at h ⊢
    by_cases k2:D9 (Y4 c l q m r.toNat q.toNat)=true
    · rw [if_pos k2] at h; exact absurd rfl h
    · rw [if_neg k2]; rfl
  · rw [if_pos k]; rfl
theorem All (x y:MX):(erZ x y).2.2.2=(erY x y).2.2.2∧((erY x y).2.2.2=0→erZ x y=erY x y):=by
  unfold erZ erY
  by_cases k1:Q6 x.1 x.2.1 x.2.2.1≠0
  · rw [if_pos k1,if_pos k1]; exact ⟨rfl,fun _=>rfl⟩
  · rw [if_neg k1,if_neg k1]
    by_cases k2:Sm (U6 x)=true
    · rw [if_pos k2,if_pos k2]; exact ⟨rfl,fun _=>rfl⟩
    · rw [if_neg k2,if_neg k2]
      by_cases k3:(Um (U6 x) y).2.2.2≠0
      · rw [if_pos k3,if_pos k3]; exact ⟨rfl,fun _=>rfl⟩
      · rw [if_neg k3,if_neg k3]
        generalize Fg (erO x) (Um (U6 x) y)=z
        refine ⟨rfl,?_⟩
        unfold Afk Afl
        by_cases k4:z.2.2.2≠0
        · rw [if_pos k4]; intro h; exact absurd h k4
        · rw [if_neg k4]
          by_cases k5:B5 z.1 z.2.1 z.2.2.1≠0
          · rw [if_pos k5]; intro h; exact absurd h (by decide)
          · rw [if_neg k5]; intro _; rfl
theorem An9 (x y:MX):Ah (erY x y).2.2.1=true:=by
  unfold erY
  split
  · exact El
  · split
    · exact El
    · split
      · exact El
      · exact Alh (Jy _ _ _ _ _ _)
section
variable {N:Nat} {r c p q u v:Int} {l m h:List Int} {T C E c1 c2 e1 e2 y d f x:MX}
theorem Anb (hx:x.2.2.2≠0→x=Gd x.2.2.2) :
    Ou (A2.Solve.C15 N r c l p q m u v h T.1 T.2.1 T.2.2.1 c1.1 c1.2.1 c1.2.2.1 c2.1 c2.2.1 c2.2.2.1 e1.1 e1.2.1 e1.2.2.1 e2.1 e2.2.1 e2.2.2.1 y.1 y.2.1 y.2.2.1 d.1 d.2.1 d.2.2.1 f.1 f.2.1 f.2.2.1 x.2.2.2 x.1 x.2.1 x.2.2.1) (T7 x (if x.2.2.2≠0 then Gd x.2.2.2 else y) x.2.2.2):=by
  rw [A2.Solve.Aom]
  by_cases k:x.2.2.2=0
  · rw [Fo k,Aq0,if_neg (fun h=>h k),k]; exact Adh rfl
  · have e:T7 x (Gd x.2.2.2) x.2.2.2=T7 (Gd x.2.2.2) (Gd x.2.2.2) x.2.2.2:=congrArg (fun z=>T7 z (Gd x.2.2.2) x.2.2.2) (hx k)
    rw [Rq k,Aqw,if_pos k,e]; exact Kv rfl
theorem Anc (aT:Ah T.2.2.1=true) (af:Ah f.2.2.1=true) :
    Ou (A2.Solve.C12 N r c l p q m u v h T.1 T.2.1 T.2.2.1 c1.1 c1.2.1 c1.2.2.1 c2.1 c2.2.1 c2.2.2.1 e1.1 e1.2.1 e1.2.2.1 e2.1 e2.2.1 e2.2.2.1 y.1 y.2.1 y.2.2.1 d.1 d.2.1 d.2.2.1 f.1 f.2.1 f.2.2.1)
      (T7 (if Nw f≠0 then Gd 2 else upM T f) (if Nw f≠0 then Gd 2 else if (upM T f).2.2.2≠0 then Gd (upM T f).2.2.2 else y) (if Nw f≠0 then Gd 2 else upM T f).2.2.2):=by
  rw [A2.Solve.Vj,aT,af,Aq2,Aqw,Aqw]
  by_cases k:Nw f=0
  · have k':¬ (Nw f≠0):=fun h=>h k
    rw [Fo (show B5 f.1 f.2.1 f.2.2.1=0 from k),Aq0,if_neg k',if_neg k']
    exact Anb (x:=upM T f) Aot
  · rw [Rq (show B5 f.1 f.2.1 f.2.2.1≠0 from k),Aqw,if_pos k,if_pos k]; exact Kv rfl
theorem Aqa (aT:Ah T.2.2.1=true) (aC:Ah (G3 c C).2.2.1=true) (aE:Ah (G3 c E).2.2.1=true) (ay:Ah y.2.2.1=true) :
    Ou (A2.Solve.C8 N r c l p q m u v h T.1 T.2.1 T.2.2.1 (G3 c C).1 (G3 c C).2.1 (G3 c C).2.2.1 c2.1 c2.2.1 c2.2.2.1 (G3 c E).1 (G3 c E).2.1 (G3 c E).2.2.1 e2.1 e2.2.1 e2.2.2.1 y.2.2.2 y.1 y.2.1 y.2.2.1)
      (T7 (gX2 r c T C E y) (gY2 r c T C E y) (gX2 r c T C E y).2.2.2):=by
  rw [A2.Solve.Amp]
  unfold gX2 gY2
  by_cases k:y.2.2.2=0
  · have k':¬ (y.2.2.2≠0):=fun h=>h k
    rw [Fo k,Aq0,if_neg k',if_neg k',aE,ay,Aq2,Aqw,A2.Solve.Ac2,aC,X0,Aq2,Aqw]
    exact Anc (c1:=G3 c C) (e1:=G3 c E) (d:=mulM (G3 c E) y) (f:=gF r c C E y) aT (Akc aC (X0 _ _ _ _ _ _))
  · rw [Rq k,Aqw,if_pos k,if_pos k]; exact Kv rfl
end
theorem A2.Solve.known:A2.Solve.Kn:=A2.Solve.Ad (.cons B4.Check.known (.cons A2.Check.known (.cons A2.apart.known (.cons A2.errors.known (.cons Aa.Mul.known (.cons Aa.Sub.known (.cons solve.Gf.known .nil))))))) fun r c l p q m u v h hp=>Qj (by
  have h0:R7 l m h=true:=hp
  obtain ⟨h1,ah⟩:=Af.1 (show ((Ah l&&Ah m)&&Ah h)=true from h0)
  obtain ⟨al,am⟩:=Af.1 h1
  show Ou _ (T7 (gX r c l p q m u v h) (gY r c l p q m u v h) (gX r c l p q m u v h).2.2.2)
  rw [A2.Solve.ev,h0,Aqw]
  unfold gX gY
  by_cases k:Hw r c l p q m u v h=0
  · have k':¬ (Hw r c l p q m u v h≠0):=fun h=>h k
    rw [Fo k,Aq0,Aqx k,Aq2,Aqw,if_neg k',if_neg k',A2.Solve.Aqu]
    by_cases k2:gE r c l p q m u v h=0
    · have aC:Ah (gC r c l u v h).2.2.1=true:=Jy _ _ _ _ _ _
      have aE:Ah (gC r c l p q m).2.2.1=true:=Jy _ _ _ _ _ _
      have aT:Ah (gT r c l).2.2.1=true:=Ku (Zr al).2 _ _ _ _
      have k2':¬ (gE r c l p q m u v h≠0):=fun h=>h k2
      rw [Fo k2,Aq0,if_neg k2',if_neg k2',Np k2,Np k2,Np k2,Np k2,Np k2,
        show Ah (Fa r c (gC r c l p q m)).2.2.1=true from Ku aE _ _ _ _,show Ah (Fa r c (gC r c l u v h)).2.2.1=true from Ku aC _ _ _ _,Aq2,Aqw]
      obtain ⟨s1,s2⟩:=All (Fa r c (gC r c l p q m)) (Fa r c (gC r c l u v h))
      by_cases k3:(erY (Fa r c (gC r c l p q m)) (Fa r c (gC r c l u v h))).2.2.2=0
      · have e:erZ ((Fa r c (gC r c l p q m)).1,(Fa r c (gC r c l p q m)).2.1,(Fa r c (gC r c l p q m)).2.2.1,0) ((Fa r c (gC r c l u v h)).1,(Fa r c (gC r c l u v h)).2.1,(Fa r c (gC r c l u v h)).2.2.1,0)=gY0 r c l p q m u v h:=s2 k3
        rw [e]
        exact Aqa (c2:=Fa r c (gC r c l u v h)) (e2:=Fa r c (gC r c l p q m)) aT (Ku aC _ _ _ _) (Ku aE _ _ _ _) (An9 _ _)
      · have e:(erZ ((Fa r c (gC r c l p q m)).1,(Fa r c (gC r c l p q m)).2.1,(Fa r c (gC r c l p q m)).2.2.1,0) ((Fa r c (gC r c l u v h)).1,(Fa r c (gC r c l u v h)).2.1,(Fa r c (gC r c l u v h)).2.2.1,0)).2.2.2=(gY0 r c l p q m u v h).2.2.2:=s1
        have k4:(gY0 r c l p q m u v h).2.2.2≠0:=k3
        rw [A2.Solve.Amp,e,Rq k4,Aqw]
        unfold gX2 gY2
        rw [if_pos k4,if_pos k4]
        exact Kv rfl
    · rw [Rq k2,Aqw,if_pos k2,if_pos k2]; exact Kv rfl
  · rw [Rq k,Aqw,if_pos k,if_pos k]
    exact Kv rfl)
set_option maxRecDepth 100000
namespace EqRef21
end EqRef21
open EqRef21
open EqRef21
theorem G2.lo' {R:Nat} {x y:MX} (h:G2 R R x) (e:(Um x y).2.2.2=0):∃ C,G2 R C (Um x y)∧FM (Um x y):=by
  obtain ⟨l,rfl,r6,c6,hl,al⟩:=h
  obtain ⟨P,Q,Y,e1,e2,a6,b6,e3,e4,e5,e6⟩:=Z7 e
  dsimp only at e1 e2
  obtain rfl:P=R:=by omega
  have e7:Um ((P:Int),(P:Int),l,0) y=((P:Int),(Q:Int),Y,0):=e3
  rw [e7]
  exact ⟨Q,.mk a6 b6 e4 e6,e5⟩
section
variable {N R C:Nat} {p q:Int} {l m:List Int} {Q L S w y:MX} {ok:Bool}
end
open EqRef21
section
variable {N n k b:Nat} {l m h:List Int} {Q R C W y f x:MX} {ok:Bool}
end
namespace EqRefM
def Ac.single.hint:Nat→Option A6
  | 0=>some { keep:=[0,1,5,6,7],objs:=[(0,5,100005,.ints 173 .u32 [])],boxes:=[] }
  | _=>none
def Ac.single.Ba:List (Nat × Entry):=[]
def Ac.single.E:Env:=Bc (A9 Ac.single.Ba) (fun _=>false) Ac.single.hint (fun _=>none)
def Ac.single.L0 (N M:Nat) (a:List Int) (x p6 p7:Int) (p5:List Int):Option DV:=B2 Ac.single.E N Tryz.f175 (Am Tryz.f175) [1,1,1,0,1,0] [] M ⟨Fw 39 [(0,.ints .arg .u32 a),(1,.int .u32 x),(5,.oref 100005),(6,.int .u64 p6),(7,.int .i64 p7)],[(100005,false,.ints 173 .u32 p5)]⟩
theorem Ac.single.At (N M:Nat) (a:List Int) (x p6 p7:Int) (p5:List Int):Ac.single.L0 N (M+1) a x p6 p7 p5=bif (A1 p7 (List.length a:Int)) then bif ((decide (0≤p7))&&(decide (p7<(List.length a:Int)))) then bif (decide ((List.length p5)+1≤Gq)) then Ac.single.L0 N M a x (A3 (Int.tdiv (A3 ((A3 ((A3 (List.getD a (Int.toNat p7) 0))*(A3 x)))+p6)) 4294967296)) (Ab (p7+1)) (p5++[(Hi (Int.tmod (A3 ((A3 ((A3 (List.getD a (Int.toNat p7) 0))*(A3 x)))+p6)) 4294967296))]) else none else none else bif (decide ((List.length p5)+1≤Gq)) then some (.ints (.own 38 173) .u32 (p5++[(Hi p6)])) else none:=by kernel_rfl
theorem Ac.single.ev (N:Nat) (a:List Int) (x:Int):By Ac.single.E N Tryz.f175 (Am Tryz.f175) [.ints .arg .u32 a,.int .u32 x] =
  Ac.single.L0 N N a x 0 0 []:=by kernel_rfl
abbrev _root_.Go.Proofs.S1.Ac.single.Kn:=A7 Tryz.prog 175 Ac.single.spec
theorem Ac.single.Ad (hk:Ax Tryz.prog Ac.single.Ba) (h:∀ (a:List Int) (x:Int),Ac.single.pre [.l a,.i x]=true→Bd Ac.single.E Tryz.f175 [.ints .arg .u32 a,.int .u32 x] (Ac.single.out [.l a,.i x])):Ac.single.Kn :=
  Al (A0 hk _ _ _) Tryz.func175 (by kernel_rfl) (by kernel_rfl) h
def Ac.Mul.hint:Nat→Option A6
  | 0=>some { keep:=[2,3,4,5,6],objs:=[(0,5,100005,.ints 173 .u32 [])],boxes:=[2,3,4] }
  | _=>none
def Ac.Mul.Ba:List (Nat × Entry):=[(171,Ac.Made.spec),(174,Ac.plus.own.spec),(175,Ac.single.spec)]
def Ac.Mul.E:Env:=Bc (A9 Ac.Mul.Ba) (fun n=>Nat.beq n 29) Ac.Mul.hint (fun _=>none)
def Ac.Mul.L0 (N M:Nat) (n:Bool) (a:List Int) (m:Bool) (b:List Int) (p6:Int) (p5:List Int):Option DV:=B2 Ac.Mul.E N Tryz.f110 (Am Tryz.f110) [1,1,0,1,0] [] M ⟨Fw 37 [(2,.ptr 2 0 0),(3,.ptr 3 0 0),(4,.ptr 4 0 0),(5,.oref 100005),(6,.int .i64 p6)],[(2,false,.box [.bool n,.ints .arg .u32 a]),(3,false,.box [.bool m,.ints .arg .u32 b]),(4,false,.box [.bool false,.nil]),(100005,false,.ints 173 .u32 p5)]⟩
theorem Ac.Mul.At (N M:Nat) (n:Bool) (a:List Int) (m:Bool) (b:List Int) (p6:Int) (p5:List Int):Ac.Mul.L0 N (M+1) n a m b p6 p5=bif (Iw 0 p6) then bif (decide (1+(List.length p5)≤Gq)) then bif ((decide (0≤p6))&&(decide (p6<(List.length b:Int)))) then bif (E5 a&&Adp (List.getD b (Int.toNat p6) 0)) then bif (E5 ([(0:Int)]++p5)&&E5 (singleL a (List.getD b (Int.toNat p6) 0))) then Ac.Mul.L0 N M n a m b (Ab (p6-1)) (G0 ([(0:Int)]++p5) (singleL a (List.getD b (Int.toNat p6) 0))) else none else none else none else none else bif (E5 p5) then some (.agg [.bool (Ar (wv (!(n==m)) p5)),.ints .arg .u32 (Ag (wv (!(n==m)) p5))]) else none :=
  Eq.trans (by kernel_rfl)
  (E3 (E3 (C0 (Li (decide (0≤p6)) (decide (p6<(List.length b:Int)))) (C0 (C3 (E5 a&&Adp (List.getD b (Int.toNat p6) 0))) (C0 (C3 (E5 ([(0:Int)]++p5)&&E5 (singleL a (List.getD b (Int.toNat p6) 0)))) rfl rfl) rfl) rfl) rfl) rfl)
theorem Ac.Mul.ev (N:Nat) (n:Bool) (a:List Int) (m:Bool) (b:List Int):By Ac.Mul.E N Tryz.f110 (Am Tryz.f110) [.agg [.bool n,.ints .arg .u32 a],.agg [.bool m,.ints .arg .u32 b]] =
  Ac.Mul.L0 N N n a m b (Ab ((List.length b:Int)-1)) []:=by kernel_rfl
abbrev _root_.Go.Proofs.S1.Ac.Mul.Kn:=A7 Tryz.prog 110 Ac.Mul.spec
theorem Ac.Mul.Ad (hk:Ax Tryz.prog Ac.Mul.Ba) (h:∀ (n:Bool) (a:List Int) (m:Bool) (b:List Int),Ac.Mul.pre [.b n,.l a,.b m,.l b]=true→Bd Ac.Mul.E Tryz.f110 [.agg [.bool n,.ints .arg .u32 a],.agg [.bool m,.ints .arg .u32 b]] (Ac.Mul.out [.b n,.l a,.b m,.l b])):Ac.Mul.Kn :=
  Al (A0 hk _ _ _) Tryz.func110 (by kernel_rfl) (by kernel_rfl) h
def Ay.Mul.Ba:List (Nat × Entry):=[(110,Ac.Mul.spec),(109,Ay.Of.spec)]
def Ay.Mul.E:Env:=Bc (A9 Ay.Mul.Ba) (fun _=>false) (fun _=>none) (fun _=>none)
theorem Ay.Mul.ev (N:Nat) (n:Bool) (a:List Int) (e:Int) (m:Bool) (b:List Int) (f:Int):By Ay.Mul.E N Tryz.f41 (Am Tryz.f41) [.agg [.bool n,.ints .arg .u32 a,.int .i64 e],.agg [.bool m,.ints .arg .u32 b,.int .i64 f]]=bif (Xs n a&&Xs m b) then bif (Jr (Ar (wv n a*wv m b)) (Ag (wv n a*wv m b))&&Ro (Ab (e+f))) then some (.agg [.bool (Ar (mD (wv (Ar (wv n a*wv m b)) (Ag (wv n a*wv m b))))),.ints .arg .u32 (Ag (mD (wv (Ar (wv n a*wv m b)) (Ag (wv n a*wv m b))))),.int .i64 (eD (wv (Ar (wv n a*wv m b)) (Ag (wv n a*wv m b))) (Ab (e+f)))]) else none else none :=
  Eq.trans (by kernel_rfl)
  (C0 (C3 (Xs n a&&Xs m b)) (C0 (C3 (Jr (Ar (wv n a*wv m b)) (Ag (wv n a*wv m b))&&Ro (Ab (e+f)))) rfl rfl) rfl)
abbrev _root_.Go.Proofs.S1.Ay.Mul.Kn:=A7 Tryz.prog 41 Ay.Mul.spec
theorem Ay.Mul.Ad (hk:Ax Tryz.prog Ay.Mul.Ba) (h:∀ (n:Bool) (a:List Int) (e:Int) (m:Bool) (b:List Int) (f:Int),Ay.Mul.pre [.b n,.l a,.i e,.b m,.l b,.i f]=true→Bd Ay.Mul.E Tryz.f41 [.agg [.bool n,.ints .arg .u32 a,.int .i64 e],.agg [.bool m,.ints .arg .u32 b,.int .i64 f]] (Ay.Mul.out [.b n,.l a,.i e,.b m,.l b,.i f])):Ay.Mul.Kn :=
  Al (A0 hk _ _ _) Tryz.func41 (by kernel_rfl) (by kernel_rfl) h
abbrev _root_.Go.Proofs.S1.Ac.plus.own.Kn:Prop:=A7 Tryz.prog 174 Ac.plus.own.spec
theorem _root_.Go.Proofs.S1.Ac.plus.own.call:∀ (args:Array Value) (w:World),(callFunc 174 args).run Tryz.prog w=.ok (.enter 174 args) w:=Mk Tryz.func174 (by kernel_rfl) (show Tryz.f174.body=some (Am Tryz.f174) by kernel_rfl)
theorem _root_.Go.Proofs.S1.Ac.plus.meets {E:Env} (he:Hq Tryz.prog E) {ts:List AT} {pre:List Atom→Bool} {out:List Atom→DV} (h:∀ ats ds,En ts ats ds→pre ats=true→∃ fuel d drops,By E fuel Tryz.f174 (Am Tryz.f174) ds=some d∧Wk drops d (out ats)):Sv Tryz.prog 174 (entry ts pre out):=Nj he Tryz.func174 (show Tryz.f174.body=some (Am Tryz.f174) by kernel_rfl) h
end EqRefM
open EqRefM
theorem S9 {n:Bool} {l:List Int} (h:Xs n l=true):∃ v,n=Ar v∧l=Ag v∧C9 v.natAbs<33554432:=by
  have h:=Ao.1 h
  obtain ⟨h1,h2,h3⟩:=h
  obtain ⟨e1,e2⟩:=R5 h2 h3
  refine ⟨wv n l,e1,e2,?_⟩
  rw [e2,Bx] at h1
  exact h1
theorem Anr {v:Int} (h:C9 v.natAbs<33554432):Xs (Ar v) (Ag v)=true :=
  Ao.2 ⟨by rw [Bx]; exact h,Vc v⟩
theorem Ac.plus.own.known:Ac.plus.own.Kn:=by
  refine ⟨Ac.plus.meets (E:=EqRefA.Ac.plus.E) (A0 (.cons Ac.Hg.known .nil) _ _ _) fun ats dvs he hp=>?_,Ac.plus.own.call⟩
  obtain ⟨a,_,_,rfl,rfl,he0⟩:=he.Amf
  obtain ⟨b,_,_,rfl,rfl,he1⟩:=he0.Amf
  obtain ⟨rfl,rfl⟩:=he1.Xy
  obtain ⟨ha,hb⟩:=Af.1 (show (E5 a&&E5 b)=true from hp)
  refine ⟨max a.length b.length+2,.ints (.own 100005 tW) .u32 (G0 a b),[],?_,.keep _ _ _ _ (List.not_mem_nil)⟩
  rw [EqRefA.Ac.plus.ev]
  exact Wb _ ha hb (max a.length b.length+1) 0 0 _ (by omega) (by omega) (by omega) (by simp)
theorem Xj {x y c:Nat} (hx:x<4294967296) (hy:y<4294967296) (hc:c<4294967296):x*y+c<18446744073709551616:=by
  have:=Nat.mul_le_mul (show x≤4294967295 by omega) (show y≤4294967295 by omega)
  omega
theorem Zf (N:Nat) {a:List Int} {X:Nat} (ha:E5 a=true) (hX:X<4294967296):∀ (k i c F:Nat),i+k=a.length→k<F→c<4294967296 →
    Bq a / 2^(32*i)*X+c=Bq a*X / 2^(32*i) →
    Ac.single.L0 N F a (X:Int) (c:Int) (i:Int) (digits i (Bq a*X))=some (.ints (.own 38 tW) .u32 (singleL a (X:Int))):=by
  obtain ⟨la,ia⟩:=H2 ha
  intro k
  induction k with
  | zero =>
    intro i c F hi hF hc h
    obtain ⟨F,rfl⟩:∃ G,F=G+1:=⟨F-1,by omega⟩
    have t0:decide ((i:Int)<(a.length:Int))=false:=Aq1 (by omega)
    have t1:decide ((digits i (Bq a*X)).length+1≤Gq)=true:=Aqx (by rw [Dc]; unfold Gq; omega)
    have hz:Bq a / 2^(32*i)=0:=Nat.div_eq_of_lt (by rw [show i=a.length by omega]; exact Hu ia)
    rw [hz,Nat.zero_mul,Nat.zero_add] at h
    rw [Ac.single.At,Aq,t0,Aq0,t1,Aqw,Ht (by omega) (by omega)]
    unfold singleL
    rw [Aqy,Hp,← show i=a.length by omega,← h,Aq9 hc]
  | succ k ih =>
    intro i c F hi hF hc h
    obtain ⟨F,rfl⟩:∃ G,F=G+1:=⟨F-1,by omega⟩
    have t0:decide ((i:Int)<(a.length:Int))=true:=Aqx (by omega)
    have t2:decide ((0:Int)≤(i:Int))=true:=Aqx (by omega)
    have t1:decide ((digits i (Bq a*X)).length+1≤Gq)=true:=Aqx (by rw [Dc]; unfold Gq; omega)
    rw [Ac.single.At,Aq,t0,t1,t2]
    simp only [Aqw,Aq2]
    rw [Aqy,Mf ia i]
    have ih:=ih (i+1)
    rw [Jj,Nat.mul_comm 4294967296,← Nat.div_div_eq_div_mul,← Nat.div_div_eq_div_mul,Hp] at ih
    generalize Bq a / 2^(32*i)=x at *
    generalize Bq a*X / 2^(32*i)=z at *
    have hb:=Xj (x:=x%4294967296) (y:=X) (c:=c) (Nat.mod_lt _ (by decide)) hX hc
    have hm:x*X=x / 4294967296*X*4294967296+x%4294967296*X:=by
      rw [Nat.mul_right_comm,← Nat.add_mul]
      congr 1
      omega
    have e1:A3 (A3 (A3 ((x%4294967296:Nat):Int)*A3 (X:Int))+(c:Int))=((x%4294967296*X+c:Nat):Int):=by
      rw [Cg (x:=((x%4294967296:Nat):Int)) (by omega) (by omega),Cg (x:=(X:Int)) (by omega) (by omega),← Ari,Cg (x:=((x%4294967296*X:Nat):Int)) (by omega) (by omega),Cg (by omega) (by omega)]
      omega
    have hlt:(x%4294967296*X+c) / 4294967296<4294967296:=by omega
    rw [e1,Aab,G7,Hv,Ht (by omega) (by omega),Cg (by omega) (by omega),An (by omega) (by omega)]
    rw [hm] at h
    generalize x%4294967296*X=p at *
    generalize x / 4294967296*X=q at *
    have e2:(p+c)%4294967296=z%4294967296:=by omega
    rw [e2]
    exact ih ((p+c) / 4294967296) F (by omega) (by omega) hlt (by omega)
theorem Ac.single.known:Ac.single.Kn:=Ac.single.Ad .nil fun a x hp=>by
  obtain ⟨ha,hx⟩:=Af.1 hp
  have hx:=Ao.1 hx
  obtain ⟨X,rfl⟩:∃ k:Nat,x=k:=⟨x.toNat,by omega⟩
  refine ⟨a.length+1,.ints (.own 38 tW) .u32 (singleL a X),[38],?_,Xo⟩
  rw [Ac.single.ev]
  exact Zf _ ha (by omega) a.length 0 0 _ (by omega) (by omega) (by omega) (by simp)
theorem Tw (a:List Int) (x:Int):Qu (singleL a x):=J6 _ _
theorem Nb (a:List Int) (x:Int):(singleL a x).length=a.length+1:=Dc _ _
theorem Zg {a:List Int} (ia:Qu a) {X:Nat} (hX:X<4294967296):Bq (singleL a (X:Int))=Bq a*X:=by
  have h:=Hu ia
  unfold singleL
  rw [Hj,Aqy,Aq9]
  rw [Jj,Nat.mul_comm 4294967296]
  exact Nat.mul_lt_mul'' h hX
theorem Ahn (N:Nat) {n m:Bool} {a b:List Int} (ha:Qu a) (hb:Qu b) (la:a.length<33554432) (lb:b.length<33554432) :
    ∀ (j F:Nat) (p:List Int),j≤b.length→j<F→Qu p→p.length≤a.length+2*(b.length-j)→Bq p=Bq a*(Bq b / 2^(32*j)) →
    Ac.Mul.L0 N F n a m b ((j:Int)-1) p=some (.agg [.bool (Ar (H9 (!(n==m)) (Bq a*Bq b))),.ints .arg .u32 (Ag (H9 (!(n==m)) (Bq a*Bq b)))]):=by
  intro j
  induction j with
  | zero =>
    intro F p hj hF ip lp vp
    obtain ⟨F,rfl⟩:∃ G,F=G+1:=⟨F-1,by omega⟩
    have o:E5 p=true:=H0 (by omega) ip
    rw [Nat.mul_zero,Nat.pow_zero,Nat.div_one] at vp
    rw [Ac.Mul.At,Er,Aq1 (by omega),Aq0,o,Aqw]
    unfold wv
    rw [vp]
  | succ j ih =>
    intro F p hj hF ip lp vp
    obtain ⟨F,rfl⟩:∃ G,F=G+1:=⟨F-1,by omega⟩
    have e0:((j+1:Nat):Int)-1=(j:Int):=by omega
    have hX:Bq b / 2^(32*j)%4294967296<4294967296:=Nat.mod_lt _ (by decide)
    have o1:E5 a=true:=H0 (by omega) ha
    have i0:Qu ([(0:Int)]++p):=Aag ip
    have o2:E5 ([(0:Int)]++p)=true:=H0 (by rw [List.length_append]; show 1+p.length<_; omega) i0
    have o3:E5 (singleL a ((Bq b / 2^(32*j)%4294967296:Nat):Int))=true:=H0 (by rw [Nb]; omega) (Tw _ _)
    have o4:Adp ((Bq b / 2^(32*j)%4294967296:Nat):Int)=true:=Ao.2 (by omega)
    have vz:Bq ([(0:Int)]++p)=4294967296*Bq p:=by
      show (0:Int).toNat+4294967296*Bq p=_
      rw [show (0:Int).toNat=0 from rfl,Nat.zero_add]
    have c1:decide (1+p.length≤Gq)=true:=Aqx (by unfold Gq; omega)
    have c2:decide ((j:Int)<(b.length:Int))=true:=Aqx (by omega)
    have c3:decide ((0:Int)≤(j:Int))=true:=Aqx (by omega)
    rw [e0,Ac.Mul.At,Er,c3,Aqw,c1,Aqw,c2,Aq2,Aqw,Aqy,Mf hb j,o1,o4,Aq2,Aqw,o2,o3,Aq2,Aqw,An (by omega) (by omega)]
    refine ih F _ (by omega) (by omega) (T6 _ _) ?_ ?_
    · rw [L6,List.length_append,Nb]
      show max (1+p.length) _+1≤_
      omega
    · rw [Wc i0 (Tw _ _),vz,Zg ha hX,vp,Jj,Nat.mul_comm 4294967296 (2^(32*j)),← Nat.div_div_eq_div_mul,Nat.mul_left_comm,← Nat.mul_add]
      congr 1
      omega
theorem Akf (s t:Bool) (x y:Nat):H9 (!(s==t)) (x*y)=H9 s x*H9 t y:=by
  unfold H9
  cases s<;>cases t<;>simp [Ari,Int.neg_mul,Int.mul_neg]
theorem Ac.Mul.known:Ac.Mul.Kn:=Ac.Mul.Ad (.cons Ac.Made.known (.cons Ac.plus.own.known (.cons Ac.single.known .nil))) fun n a m b hp=>by
  obtain ⟨h1,h2⟩:=Af.1 hp
  obtain ⟨v,rfl,rfl,hv⟩:=S9 h1
  obtain ⟨w,rfl,rfl,hw⟩:=S9 h2
  refine ⟨(Ag w).length+1,Ac.Mul.out [.b (Ar v),.l (Ag v),.b (Ar w),.l (Ag w)],[],?_,W9⟩
  have lv:=Bx v
  have lw:=Bx w
  have iw:=Ff w
  have hz:Bq (Ag w) / 2^(32*(Ag w).length)=0:=Nat.div_eq_of_lt (Hu iw)
  rw [Ac.Mul.ev,An (by omega) (by omega)]
  refine (Ahn _ (Ff v) iw (by omega) (by omega) (Ag w).length _ [] (Nat.le_refl _) (by omega) (fun x h=>by cases h) (by show 0≤_; omega) (by rw [hz,Nat.mul_zero]; rfl)).trans ?_
  rw [Akf]
  rfl
theorem Ah8 (n m:Nat):C9 (n*m)≤C9 n+C9 m:=by
  refine Jv ?_
  rw [Nat.mul_add,Nat.pow_add]
  exact Nat.mul_lt_mul'' (Iv n) (Iv m)
theorem Ay.Mul.known:Ay.Mul.Kn:=Ay.Mul.Ad (.cons Ac.Mul.known (.cons Ay.Of.known .nil)) fun n a e m b f hp=>by
  obtain ⟨h1,h2⟩:=Af.1 hp
  obtain ⟨h3,h4⟩:=Af.1 h2
  have he:=Ao.1 h3
  have hf:=Ao.1 h4
  obtain ⟨h5,h6⟩:=Af.1 h1
  obtain ⟨v,rfl,rfl,hv⟩:=S9 h5
  obtain ⟨w,rfl,rfl,hw⟩:=S9 h6
  refine ⟨0,Ay.Mul.out [.b (Ar v),.l (Ag v),.i e,.b (Ar w),.l (Ag w),.i f],[],?_,wdy⟩
  have hl:=Ah8 v.natAbs w.natAbs
  have o1:Jr (Ar (v*w)) (Ag (v*w))=true:=Jd (by rw [Int.natAbs_mul]; omega)
  have o2:Ro (e+f)=true:=Ao.2 (by omega)
  rw [Ay.Mul.ev,h5,h6,Aq2,Aqw,An (by omega) (by omega)]
  simp only [Fy]
  rw [o1,o2,Aq2,Aqw]
  show _=some (DV.agg [.bool (Ar (mD (wv (Ar v) (Ag v)*wv (Ar w) (Ag w)))),.ints .arg .u32 (Ag (mD (wv (Ar v) (Ag v)*wv (Ar w) (Ag w)))),.int .i64 (eD (wv (Ar v) (Ag v)*wv (Ar w) (Ag w)) (e+f))])
  rw [Fy,Fy]
namespace EqLaw17
end EqLaw17
open EqLaw17
namespace EqLaw21
def Dw.Ce.hint:Nat→Option A6
  | 0=>some { keep:=[0,2,3,4],objs:=[],boxes:=[2,3] }
  | _=>none
def Dw.Ce.Ba:List (Nat × Entry):=[(42,Ay.Add.spec),(41,Ay.Mul.spec),(63,Bb.Value.spec)]
def Dw.Ce.E:Env:=Bc (A9 Dw.Ce.Ba) (fun _=>false) Dw.Ce.hint (fun _=>none)
def Dw.Ce.L0 (N M:Nat) (x:List Int):Option DV:=B2 Dw.Ce.E N Tryz.f55 (Am Tryz.f55) [1,1,0,1,0] [] M ⟨Fw 24 [(0,.ints .arg .u64 x),(2,.ptr 2 0 0),(3,.ptr 3 0 0),(4,.int .i64 0)],[(2,false,.box [.bool false,.nil,.int .i64 0]),(3,false,.box [.bool false,.nil,.int .i64 0])]⟩
def Dw.Ce.L1 (N M:Nat) (x:List Int) (p4:Int) (p3:Bool) (p3_1:List Int) (p3_2:Int):Option DV:=B2 Dw.Ce.E N Tryz.f55 (Am Tryz.f55) [1,1,0,1,0] [] M ⟨Fw 24 [(0,.ints .arg .u64 x),(2,.ptr 2 0 0),(3,.ptr 3 0 0),(4,.int .i64 p4)],[(2,false,.box [.bool false,.nil,.int .i64 0]),(3,false,.box [.bool p3,.ints .arg .u32 p3_1,.int .i64 p3_2])]⟩
theorem Dw.Ce.At (N M:Nat) (x:List Int):Dw.Ce.L0 N (M+1) x=bif (A1 0 (List.length x:Int)) then bif (decide ((0:Int)<(List.length x:Int))) then bif (Ai (List.getD x 0 0)) then bif ((Xs (Ar (mD (A8 (List.getD x 0 0)))) (Ag (mD (A8 (List.getD x 0 0))))&&Xs (Ar (mD (A8 (List.getD x 0 0)))) (Ag (mD (A8 (List.getD x 0 0)))))&&(Ta (eD (A8 (List.getD x 0 0)) (Aw (List.getD x 0 0)))&&Ta (eD (A8 (List.getD x 0 0)) (Aw (List.getD x 0 0))))) then bif (((Vn false []&&Vn (Ar (mD (wv (Ar (mD (A8 (List.getD x 0 0)))) (Ag (mD (A8 (List.getD x 0 0))))*wv (Ar (mD (A8 (List.getD x 0 0)))) (Ag (mD (A8 (List.getD x 0 0))))))) (Ag (mD (wv (Ar (mD (A8 (List.getD x 0 0)))) (Ag (mD (A8 (List.getD x 0 0))))*wv (Ar (mD (A8 (List.getD x 0 0)))) (Ag (mD (A8 (List.getD x 0 0))))))))&&Ta 0)&&Ta (eD (wv (Ar (mD (A8 (List.getD x 0 0)))) (Ag (mD (A8 (List.getD x 0 0))))*wv (Ar (mD (A8 (List.getD x 0 0)))) (Ag (mD (A8 (List.getD x 0 0))))) ((eD (A8 (List.getD x 0 0)) (Aw (List.getD x 0 0)))+(eD (A8 (List.getD x 0 0)) (Aw (List.getD x 0 0)))))) then Dw.Ce.L1 N M x 1 (Ar (Aa3 (wv false []) 0 (wv (Ar (mD (wv (Ar (mD (A8 (List.getD x 0 0)))) (Ag (mD (A8 (List.getD x 0 0))))*wv (Ar (mD (A8 (List.getD x 0 0)))) (Ag (mD (A8 (List.getD x 0 0))))))) (Ag (mD (wv (Ar (mD (A8 (List.getD x 0 0)))) (Ag (mD (A8 (List.getD x 0 0))))*wv (Ar (mD (A8 (List.getD x 0 0)))) (Ag (mD (A8 (List.getD x 0 0)))))))) (eD (wv (Ar (mD (A8 (List.getD x 0 0)))) (Ag (mD (A8 (List.getD x 0 0))))*wv (Ar (mD (A8 (List.getD x 0 0)))) (Ag (mD (A8 (List.getD x 0 0))))) ((eD (A8 (List.getD x 0 0)) (Aw (List.getD x 0 0)))+(eD (A8 (List.getD x 0 0)) (Aw (List.getD x 0 0))))))) (Ag (Aa3 (wv false []) 0 (wv (Ar (mD (wv (Ar (mD (A8 (List.getD x 0 0)))) (Ag (mD (A8 (List.getD x 0 0))))*wv (Ar (mD (A8 (List.getD x 0 0)))) (Ag (mD (A8 (List.getD x 0 0))))))) (Ag (mD (wv (Ar (mD (A8 (List.getD x 0 0)))) (Ag (mD (A8 (List.getD x 0 0))))*wv (Ar (mD (A8 (List.getD x 0 0)))) (Ag (mD (A8 (List.getD x 0 0)))))))) (eD (wv (Ar (mD (A8 (List.getD x 0 0)))) (Ag (mD (A8 (List.getD x 0 0))))*wv (Ar (mD (A8 (List.getD x 0 0)))) (Ag (mD (A8 (List.getD x 0 0))))) ((eD (A8 (List.getD x 0 0)) (Aw (List.getD x 0 0)))+(eD (A8 (List.getD x 0 0)) (Aw (List.getD x 0 0))))))) (Ajo (wv false []) 0 (wv (Ar (mD (wv (Ar (mD (A8 (List.getD x 0 0)))) (Ag (mD (A8 (List.getD x 0 0))))*wv (Ar (mD (A8 (List.getD x 0 0)))) (Ag (mD (A8 (List.getD x 0 0))))))) (Ag (mD (wv (Ar (mD (A8 (List.getD x 0 0)))) (Ag (mD (A8 (List.getD x 0 0))))*wv (Ar (mD (A8 (List.getD x 0 0)))) (Ag (mD (A8 (List.getD x 0 0)))))))) (eD (wv (Ar (mD (A8 (List.getD x 0 0)))) (Ag (mD (A8 (List.getD x 0 0))))*wv (Ar (mD (A8 (List.getD x 0 0)))) (Ag (mD (A8 (List.getD x 0 0))))) ((eD (A8 (List.getD x 0 0)) (Aw (List.getD x 0 0)))+(eD (A8 (List.getD x 0 0)) (Aw (List.getD x 0 0)))))) else none else none else none else none else some (.agg [.bool false,.nil,.int .i64 0]) :=
  Eq.trans (by kernel_rfl)
  (E3 (E3 (E3 (C0 (C3 ((Xs (Ar (mD (A8 (List.getD x 0 0)))) (Ag (mD (A8 (List.getD x 0 0))))&&Xs (Ar (mD (A8 (List.getD x 0 0)))) (Ag (mD (A8 (List.getD x 0 0)))))&&(Ta (eD (A8 (List.getD x 0 0)) (Aw (List.getD x 0 0)))&&Ta (eD (A8 (List.getD x 0 0)) (Aw (List.getD x 0 0)))))) (C0 (C3 (((Vn false []&&Vn (Ar (mD (wv (Ar (mD (A8 (List.getD x 0 0)))) (Ag (mD (A8 (List.getD x 0 0))))*wv (Ar (mD (A8 (List.getD x 0 0)))) (Ag (mD (A8 (List.getD x 0 0))))))) (Ag (mD (wv (Ar (mD (A8 (List.getD x 0 0)))) (Ag (mD (A8 (List.getD x 0 0))))*wv (Ar (mD (A8 (List.getD x 0 0)))) (Ag (mD (A8 (List.getD x 0 0))))))))&&Ta 0)&&Ta (eD (wv (Ar (mD (A8 (List.getD x 0 0)))) (Ag (mD (A8 (List.getD x 0 0))))*wv (Ar (mD (A8 (List.getD x 0 0)))) (Ag (mD (A8 (List.getD x 0 0))))) ((eD (A8 (List.getD x 0 0)) (Aw (List.getD x 0 0)))+(eD (A8 (List.getD x 0 0)) (Aw (List.getD x 0 0))))))) rfl rfl) rfl) rfl) rfl) rfl)
theorem Dw.Ce.Cc (N M:Nat) (x:List Int) (p4:Int) (p3:Bool) (p3_1:List Int) (p3_2:Int):Dw.Ce.L1 N (M+1) x p4 p3 p3_1 p3_2=bif (A1 p4 (List.length x:Int)) then bif ((decide (0≤p4))&&(decide (p4<(List.length x:Int)))) then bif (Ai (List.getD x (Int.toNat p4) 0)) then bif ((Xs (Ar (mD (A8 (List.getD x (Int.toNat p4) 0)))) (Ag (mD (A8 (List.getD x (Int.toNat p4) 0))))&&Xs (Ar (mD (A8 (List.getD x (Int.toNat p4) 0)))) (Ag (mD (A8 (List.getD x (Int.toNat p4) 0)))))&&(Ta (eD (A8 (List.getD x (Int.toNat p4) 0)) (Aw (List.getD x (Int.toNat p4) 0)))&&Ta (eD (A8 (List.getD x (Int.toNat p4) 0)) (Aw (List.getD x (Int.toNat p4) 0))))) then bif (((Vn p3 p3_1&&Vn (Ar (mD (wv (Ar (mD (A8 (List.getD x (Int.toNat p4) 0)))) (Ag (mD (A8 (List.getD x (Int.toNat p4) 0))))*wv (Ar (mD (A8 (List.getD x (Int.toNat p4) 0)))) (Ag (mD (A8 (List.getD x (Int.toNat p4) 0))))))) (Ag (mD (wv (Ar (mD (A8 (List.getD x (Int.toNat p4) 0)))) (Ag (mD (A8 (List.getD x (Int.toNat p4) 0))))*wv (Ar (mD (A8 (List.getD x (Int.toNat p4) 0)))) (Ag (mD (A8 (List.getD x (Int.toNat p4) 0))))))))&&Ta p3_2)&&Ta (eD (wv (Ar (mD (A8 (List.getD x (Int.toNat p4) 0)))) (Ag (mD (A8 (List.getD x (Int.toNat p4) 0))))*wv (Ar (mD (A8 (List.getD x (Int.toNat p4) 0)))) (Ag (mD (A8 (List.getD x (Int.toNat p4) 0))))) ((eD (A8 (List.getD x (Int.toNat p4) 0)) (Aw (List.getD x (Int.toNat p4) 0)))+(eD (A8 (List.getD x (Int.toNat p4) 0)) (Aw (List.getD x (Int.toNat p4) 0)))))) then Dw.Ce.L1 N M x (Ab (p4+1)) (Ar (Aa3 (wv p3 p3_1) p3_2 (wv (Ar (mD (wv (Ar (mD (A8 (List.getD x (Int.toNat p4) 0)))) (Ag (mD (A8 (List.getD x (Int.toNat p4) 0))))*wv (Ar (mD (A8 (List.getD x (Int.toNat p4) 0)))) (Ag (mD (A8 (List.getD x (Int.toNat p4) 0))))))) (Ag (mD (wv (Ar (mD (A8 (List.getD x (Int.toNat p4) 0)))) (Ag (mD (A8 (List.getD x (Int.toNat p4) 0))))*wv (Ar (mD (A8 (List.getD x (Int.toNat p4) 0)))) (Ag (mD (A8 (List.getD x (Int.toNat p4) 0)))))))) (eD (wv (Ar (mD (A8 (List.getD x (Int.toNat p4) 0)))) (Ag (mD (A8 (List.getD x (Int.toNat p4) 0))))*wv (Ar (mD (A8 (List.getD x (Int.toNat p4) 0)))) (Ag (mD (A8 (List.getD x (Int.toNat p4) 0))))) ((eD (A8 (List.getD x (Int.toNat p4) 0)) (Aw (List.getD x (Int.toNat p4) 0)))+(eD (A8 (List.getD x (Int.toNat p4) 0)) (Aw (List.getD x (Int.toNat p4) 0))))))) (Ag (Aa3 (wv p3 p3_1) p3_2 (wv (Ar (mD (wv (Ar (mD (A8 (List.getD x (Int.toNat p4) 0)))) (Ag (mD (A8 (List.getD x (Int.toNat p4) 0))))*wv (Ar (mD (A8 (List.getD x (Int.toNat p4) 0)))) (Ag (mD (A8 (List.getD x (Int.toNat p4) 0))))))) (Ag (mD (wv (Ar (mD (A8 (List.getD x (Int.toNat p4) 0)))) (Ag (mD (A8 (List.getD x (Int.toNat p4) 0))))*wv (Ar (mD (A8 (List.getD x (Int.toNat p4) 0)))) (Ag (mD (A8 (List.getD x (Int.toNat p4) 0)))))))) (eD (wv (Ar (mD (A8 (List.getD x (Int.toNat p4) 0)))) (Ag (mD (A8 (List.getD x (Int.toNat p4) 0))))*wv (Ar (mD (A8 (List.getD x (Int.toNat p4) 0)))) (Ag (mD (A8 (List.getD x (Int.toNat p4) 0))))) ((eD (A8 (List.getD x (Int.toNat p4) 0)) (Aw (List.getD x (Int.toNat p4) 0)))+(eD (A8 (List.getD x (Int.toNat p4) 0)) (Aw (List.getD x (Int.toNat p4) 0))))))) (Ajo (wv p3 p3_1) p3_2 (wv (Ar (mD (wv (Ar (mD (A8 (List.getD x (Int.toNat p4) 0)))) (Ag (mD (A8 (List.getD x (Int.toNat p4) 0))))*wv (Ar (mD (A8 (List.getD x (Int.toNat p4) 0)))) (Ag (mD (A8 (List.getD x (Int.toNat p4) 0))))))) (Ag (mD (wv (Ar (mD (A8 (List.getD x (Int.toNat p4) 0)))) (Ag (mD (A8 (List.getD x (Int.toNat p4) 0))))*wv (Ar (mD (A8 (List.getD x (Int.toNat p4) 0)))) (Ag (mD (A8 (List.getD x (Int.toNat p4) 0)))))))) (eD (wv (Ar (mD (A8 (List.getD x (Int.toNat p4) 0)))) (Ag (mD (A8 (List.getD x (Int.toNat p4) 0))))*wv (Ar (mD (A8 (List.getD x (Int.toNat p4) 0)))) (Ag (mD (A8 (List.getD x (Int.toNat p4) 0))))) ((eD (A8 (List.getD x (Int.toNat p4) 0)) (Aw (List.getD x (Int.toNat p4) 0)))+(eD (A8 (List.getD x (Int.toNat p4) 0)) (Aw (List.getD x (Int.toNat p4) 0)))))) else none else none else none else none else some (.agg [.bool p3,.ints .arg .u32 p3_1,.int .i64 p3_2]) :=
  Eq.trans (by kernel_rfl)
  (E3 (E3 (E3 (C0 (C3 ((Xs (Ar (mD (A8 (List.getD x (Int.toNat p4) 0)))) (Ag (mD (A8 (List.getD x (Int.toNat p4) 0))))&&Xs (Ar (mD (A8 (List.getD x (Int.toNat p4) 0)))) (Ag (mD (A8 (List.getD x (Int.toNat p4) 0)))))&&(Ta (eD (A8 (List.getD x (Int.toNat p4) 0)) (Aw (List.getD x (Int.toNat p4) 0)))&&Ta (eD (A8 (List.getD x (Int.toNat p4) 0)) (Aw (List.getD x (Int.toNat p4) 0)))))) (C0 (C3 (((Vn p3 p3_1&&Vn (Ar (mD (wv (Ar (mD (A8 (List.getD x (Int.toNat p4) 0)))) (Ag (mD (A8 (List.getD x (Int.toNat p4) 0))))*wv (Ar (mD (A8 (List.getD x (Int.toNat p4) 0)))) (Ag (mD (A8 (List.getD x (Int.toNat p4) 0))))))) (Ag (mD (wv (Ar (mD (A8 (List.getD x (Int.toNat p4) 0)))) (Ag (mD (A8 (List.getD x (Int.toNat p4) 0))))*wv (Ar (mD (A8 (List.getD x (Int.toNat p4) 0)))) (Ag (mD (A8 (List.getD x (Int.toNat p4) 0))))))))&&Ta p3_2)&&Ta (eD (wv (Ar (mD (A8 (List.getD x (Int.toNat p4) 0)))) (Ag (mD (A8 (List.getD x (Int.toNat p4) 0))))*wv (Ar (mD (A8 (List.getD x (Int.toNat p4) 0)))) (Ag (mD (A8 (List.getD x (Int.toNat p4) 0))))) ((eD (A8 (List.getD x (Int.toNat p4) 0)) (Aw (List.getD x (Int.toNat p4) 0)))+(eD (A8 (List.getD x (Int.toNat p4) 0)) (Aw (List.getD x (Int.toNat p4) 0))))))) rfl rfl) rfl) rfl) rfl) rfl)
theorem Dw.Ce.ev (N:Nat) (x:List Int):By Dw.Ce.E N Tryz.f55 (Am Tryz.f55) [.ints .arg .u64 x] =
  Dw.Ce.L0 N N x:=by kernel_rfl
abbrev _root_.Go.Proofs.S1.Dw.Ce.Kn:=A7 Tryz.prog 55 Dw.Ce.spec
theorem Dw.Ce.Ad (hk:Ax Tryz.prog Dw.Ce.Ba) (h:∀ (x:List Int),Dw.Ce.pre [.l x]=true→Bd Dw.Ce.E Tryz.f55 [.ints .arg .u64 x] (Dw.Ce.out [.l x])):Dw.Ce.Kn :=
  Al (A0 hk _ _ _) Tryz.func55 (by kernel_rfl) (by kernel_rfl) h
def B1.one.Ba:List (Nat × Entry):=[]
def B1.one.E:Env:=Bc (A9 B1.one.Ba) (fun _=>false) (fun _=>none) (fun _=>none)
theorem B1.one.ev (N:Nat) (b:Int):By B1.one.E N Tryz.f134 (Am Tryz.f134) [.int .u64 b]=some (.agg [.int .i64 1,.int .i64 1,.ints (.own 4 37) .u64 [b]]):=by kernel_rfl
abbrev _root_.Go.Proofs.S1.B1.one.Kn:=A7 Tryz.prog 134 B1.one.spec
theorem B1.one.Ad (hk:Ax Tryz.prog B1.one.Ba) (h:∀ (b:Int),B1.one.pre [.i b]=true→Bd B1.one.E Tryz.f134 [.int .u64 b] (B1.one.out [.i b])):B1.one.Kn :=
  Al (A0 hk _ _ _) Tryz.func134 (by kernel_rfl) (by kernel_rfl) h
def B1.F9.Ba:List (Nat × Entry):=[(60,A2.Solve.spec),(134,B1.one.spec),(54,Ay.Du.spec),(55,Dw.Ce.spec)]
def B1.F9.E:Env:=Bc (A9 B1.F9.Ba) (fun _=>false) (fun _=>none) (fun _=>none)
theorem B1.F9.ev (N:Nat):By B1.F9.E N Tryz.f59 (Am Tryz.f59) []=bif (R7 [] ([(4607182418800017408:Int)]) ([(4613937818241073152:Int)])) then bif ((!((((gX 1 0 [] 1 1 ([(4607182418800017408:Int)]) 1 1 ([(4613937818241073152:Int)])).2.2.2)==(0:Int))&&((List.length ((gY 1 0 [] 1 1 ([(4607182418800017408:Int)]) 1 1 ([(4613937818241073152:Int)])).2.2.1):Int)==(1:Int))))||(C4 ((gY 1 0 [] 1 1 ([(4607182418800017408:Int)]) 1 1 ([(4613937818241073152:Int)])).2.2.1)&&Cn (List.length ((gY 1 0 [] 1 1 ([(4607182418800017408:Int)]) 1 1 ([(4613937818241073152:Int)])).2.2.1)=1))) then bif ((((gX 1 0 [] 1 1 ([(4607182418800017408:Int)]) 1 1 ([(4613937818241073152:Int)])).2.2.2)==(0:Int))&&((List.length ((gY 1 0 [] 1 1 ([(4607182418800017408:Int)]) 1 1 ([(4613937818241073152:Int)])).2.2.1):Int)==(1:Int))) then bif (((((gX 1 0 [] 1 1 ([(4607182418800017408:Int)]) 1 1 ([(4613937818241073152:Int)])).2.2.2)==(0:Int))&&((List.length ((gY 1 0 [] 1 1 ([(4607182418800017408:Int)]) 1 1 ([(4613937818241073152:Int)])).2.2.1):Int)==(1:Int)))&&(C4 [(4613937818241073152:Int)]&&Cn (List.length [(4613937818241073152:Int)]=1))) then bif ((!((((gX 1 0 [] 1 1 ([(4607182418800017408:Int)]) 1 1 ([(4613937818241073152:Int)])).2.2.2)==(0:Int))&&((List.length ((gY 1 0 [] 1 1 ([(4607182418800017408:Int)]) 1 1 ([(4613937818241073152:Int)])).2.2.1):Int)==(1:Int))))||(Jr (Ar (sqM (List.getD ((gY 1 0 [] 1 1 ([(4607182418800017408:Int)]) 1 1 ([(4613937818241073152:Int)])).2.2.1) 0 0))) (Ag (sqM (List.getD ((gY 1 0 [] 1 1 ([(4607182418800017408:Int)]) 1 1 ([(4613937818241073152:Int)])).2.2.1) 0 0)))&&Jr (Ar (sqM (List.getD [(4613937818241073152:Int)] 0 0))) (Ag (sqM (List.getD [(4613937818241073152:Int)] 0 0))))) then some (.bool (bif (bif (((gX 1 0 [] 1 1 ([(4607182418800017408:Int)]) 1 1 ([(4613937818241073152:Int)])).2.2.2)==(0:Int)) then ((List.length ((gY 1 0 [] 1 1 ([(4607182418800017408:Int)]) 1 1 ([(4613937818241073152:Int)])).2.2.1):Int)==(1:Int)) else false) then (((decide ((sqE (List.getD ((gY 1 0 [] 1 1 ([(4607182418800017408:Int)]) 1 1 ([(4613937818241073152:Int)])).2.2.1) 0 0))=(sqE (List.getD [(4613937818241073152:Int)] 0 0))))&&Ty (wv (Ar (sqM (List.getD ((gY 1 0 [] 1 1 ([(4607182418800017408:Int)]) 1 1 ([(4613937818241073152:Int)])).2.2.1) 0 0))) (Ag (sqM (List.getD ((gY 1 0 [] 1 1 ([(4607182418800017408:Int)]) 1 1 ([(4613937818241073152:Int)])).2.2.1) 0 0)))) (wv (Ar (sqM (List.getD [(4613937818241073152:Int)] 0 0))) (Ag (sqM (List.getD [(4613937818241073152:Int)] 0 0)))))) else false)) else none else none else none else none else none :=
  Eq.trans (by kernel_rfl)
  (E3 (Au (N7 (((gX 1 0 [] 1 1 ([(4607182418800017408:Int)]) 1 1 ([(4613937818241073152:Int)])).2.2.2)==(0:Int))) (Au (Kq (((gX 1 0 [] 1 1 ([(4607182418800017408:Int)]) 1 1 ([(4613937818241073152:Int)])).2.2.2)==(0:Int))) (Au (Kq (((gX 1 0 [] 1 1 ([(4607182418800017408:Int)]) 1 1 ([(4613937818241073152:Int)])).2.2.2)==(0:Int))) (Au (Kq (((gX 1 0 [] 1 1 ([(4607182418800017408:Int)]) 1 1 ([(4613937818241073152:Int)])).2.2.2)==(0:Int))) (Au (Q9 (((gX 1 0 [] 1 1 ([(4607182418800017408:Int)]) 1 1 ([(4613937818241073152:Int)])).2.2.2)==(0:Int))) (Au (tt77 (((gX 1 0 [] 1 1 ([(4607182418800017408:Int)]) 1 1 ([(4613937818241073152:Int)])).2.2.2)==(0:Int)) ((List.length ((gY 1 0 [] 1 1 ([(4607182418800017408:Int)]) 1 1 ([(4613937818241073152:Int)])).2.2.1):Int)==(1:Int))) (Au (tt76 (((gX 1 0 [] 1 1 ([(4607182418800017408:Int)]) 1 1 ([(4613937818241073152:Int)])).2.2.2)==(0:Int)) ((List.length ((gY 1 0 [] 1 1 ([(4607182418800017408:Int)]) 1 1 ([(4613937818241073152:Int)])).2.2.1):Int)==(1:Int))) (C0 (tt95 (((gX 1 0 [] 1 1 ([(4607182418800017408:Int)]) 1 1 ([(4613937818241073152:Int)])).2.2.2)==(0:Int)) ((List.length ((gY 1 0 [] 1 1 ([(4607182418800017408:Int)]) 1 1 ([(4613937818241073152:Int)])).2.2.1):Int)==(1:Int)) (C4 ((gY 1 0 [] 1 1 ([(4607182418800017408:Int)]) 1 1 ([(4613937818241073152:Int)])).2.2.1)&&Cn (List.length ((gY 1 0 [] 1 1 ([(4607182418800017408:Int)]) 1 1 ([(4613937818241073152:Int)])).2.2.1)=1))) (C0 (Ap1 (((gX 1 0 [] 1 1 ([(4607182418800017408:Int)]) 1 1 ([(4613937818241073152:Int)])).2.2.2)==(0:Int)) ((List.length ((gY 1 0 [] 1 1 ([(4607182418800017408:Int)]) 1 1 ([(4613937818241073152:Int)])).2.2.1):Int)==(1:Int))) (C0 (Ap2 (((gX 1 0 [] 1 1 ([(4607182418800017408:Int)]) 1 1 ([(4613937818241073152:Int)])).2.2.2)==(0:Int)) ((List.length ((gY 1 0 [] 1 1 ([(4607182418800017408:Int)]) 1 1 ([(4613937818241073152:Int)])).2.2.1):Int)==(1:Int)) (C4 [(4613937818241073152:Int)]&&Cn (List.length [(4613937818241073152:Int)]=1))) (C0 (tt78 (((gX 1 0 [] 1 1 ([(4607182418800017408:Int)]) 1 1 ([(4613937818241073152:Int)])).2.2.2)==(0:Int)) ((List.length ((gY 1 0 [] 1 1 ([(4607182418800017408:Int)]) 1 1 ([(4613937818241073152:Int)])).2.2.1):Int)==(1:Int)) (Jr (Ar (sqM (List.getD ((gY 1 0 [] 1 1 ([(4607182418800017408:Int)]) 1 1 ([(4613937818241073152:Int)])).2.2.1) 0 0))) (Ag (sqM (List.getD ((gY 1 0 [] 1 1 ([(4607182418800017408:Int)]) 1 1 ([(4613937818241073152:Int)])).2.2.1) 0 0)))&&Jr (Ar (sqM (List.getD [(4613937818241073152:Int)] 0 0))) (Ag (sqM (List.getD [(4613937818241073152:Int)] 0 0))))) (Au (tt75 (((gX 1 0 [] 1 1 ([(4607182418800017408:Int)]) 1 1 ([(4613937818241073152:Int)])).2.2.2)==(0:Int)) ((List.length ((gY 1 0 [] 1 1 ([(4607182418800017408:Int)]) 1 1 ([(4613937818241073152:Int)])).2.2.1):Int)==(1:Int))) rfl) rfl) rfl) rfl) rfl)))))))) rfl)
abbrev _root_.Go.Proofs.S1.B1.F9.Kn:=A7 Tryz.prog 59 B1.F9.spec
theorem B1.F9.Ad (hk:Ax Tryz.prog B1.F9.Ba) (h:∀ (_:Unit),B1.F9.pre []=true→Bd B1.F9.E Tryz.f59 [] (B1.F9.out [])):B1.F9.Kn :=
  Al (A0 hk _ _ _) Tryz.func59 (by kernel_rfl) (by kernel_rfl) (h ())
def B1.Bv.hint:Nat→Option A6
  | 0=>some { keep:=[1,4,6],objs:=[],boxes:=[1,4] }
  | _=>none
def B1.Bv.Ba:List (Nat × Entry):=[(60,A2.Solve.spec),(59,B1.F9.spec),(62,Bb.Kind.spec)]
def B1.Bv.E:Env:=Bc (A9 B1.Bv.Ba) (fun _=>false) B1.Bv.hint (fun _=>none)
def B1.Bv.L0 (N M:Nat) (r c:Int) (l:List Int) (p q:Int) (m:List Int) (u v:Int) (h:List Int) (p6:Int):Option DV:=B2 B1.Bv.E N Tryz.f15 (Am Tryz.f15) [1,1,1,1,0,1,0] [] M ⟨Fw 54 [(1,.ptr 1 0 0),(4,.ptr 4 0 0),(6,.int .i64 p6)],[(1,false,.box [.int .i64 r,.int .i64 c,.ints .arg .u64 l,.int .i64 p,.int .i64 q,.ints .arg .u64 m,.int .i64 u,.int .i64 v,.ints .arg .u64 h]),(4,false,.box [.int .i64 ((gY r c l p q m u v h).1),.int .i64 ((gY r c l p q m u v h).2.1),.ints .fresh .u64 ((gY r c l p q m u v h).2.2.1)])]⟩
theorem B1.Bv.At (N M:Nat) (r c:Int) (l:List Int) (p q:Int) (m:List Int) (u v:Int) (h:List Int) (p6:Int):B1.Bv.L0 N (M+1) r c l p q m u v h p6=bif (A1 p6 (List.length ((gY r c l p q m u v h).2.2.1):Int)) then bif ((decide (0≤p6))&&(decide (p6<(List.length ((gY r c l p q m u v h).2.2.1):Int)))) then bif (Ph (List.getD ((gY r c l p q m u v h).2.2.1) (Int.toNat p6) 0)) then bif ((A4 (List.getD ((gY r c l p q m u v h).2.2.1) (Int.toNat p6) 0)) !=(0:Int)) then some (.bool false) else B1.Bv.L0 N M r c l p q m u v h (Ab (p6+1)) else none else none else some (.bool (bif ((List.length ((gY r c l p q m u v h).2.2.1):Int)==q) then true else false)) :=
  Eq.trans (by kernel_rfl)
  (E3 rfl (Au (N7 ((List.length ((gY r c l p q m u v h).2.2.1):Int)==q)) (Au (Q9 ((List.length ((gY r c l p q m u v h).2.2.1):Int)==q)) rfl)))
theorem B1.Bv.ev (N:Nat) (r c:Int) (l:List Int) (p q:Int) (m:List Int) (u v:Int) (h:List Int):By B1.Bv.E N Tryz.f15 (Am Tryz.f15) [.agg [.int .i64 r,.int .i64 c,.ints .arg .u64 l,.int .i64 p,.int .i64 q,.ints .arg .u64 m,.int .i64 u,.int .i64 v,.ints .arg .u64 h]]=bif (r !=c) then some (.bool true) else bif (R7 l m h) then bif (((gX r c l p q m u v h).2.2.2) !=(0:Int)) then some (.bool (bif ((List.length ((gY r c l p q m u v h).2.2.1):Int)==(0:Int)) then true else false)) else B1.Bv.L0 N N r c l p q m u v h (0:Int) else none :=
  Eq.trans (by kernel_rfl)
  (E3 rfl (E3 (E3 (Au (N7 ((List.length ((gY r c l p q m u v h).2.2.1):Int)==(0:Int))) (Au (Q9 ((List.length ((gY r c l p q m u v h).2.2.1):Int)==(0:Int))) rfl)) rfl) rfl))
abbrev _root_.Go.Proofs.S1.B1.Bv.Kn:=A7 Tryz.prog 15 B1.Bv.spec
theorem B1.Bv.Ad (hk:Ax Tryz.prog B1.Bv.Ba) (h:∀ (r c:Int) (l:List Int) (p q:Int) (m:List Int) (u v:Int) (h:List Int),B1.Bv.pre [.i r,.i c,.l l,.i p,.i q,.l m,.i u,.i v,.l h]=true→Bd B1.Bv.E Tryz.f15 [.agg [.int .i64 r,.int .i64 c,.ints .arg .u64 l,.int .i64 p,.int .i64 q,.ints .arg .u64 m,.int .i64 u,.int .i64 v,.ints .arg .u64 h]] (B1.Bv.out [.i r,.i c,.l l,.i p,.i q,.l m,.i u,.i v,.l h])):B1.Bv.Kn :=
  Al (A0 hk _ _ _) Tryz.func15 (by kernel_rfl) (by kernel_rfl) h
end EqLaw21
open EqLaw21
theorem Aix {v e:Int} {t:Nat} (h:v.natAbs<2^t) (h0:0<t) (he:-3000≤e∧e≤3000) (ht:t≤300):Ta (eD v e)=true:=by
  refine Ao.2 ?_
  unfold eD
  by_cases k:v=0
  · rw [if_pos k]; omega
  · rw [if_neg k]
    have:=Tm (m:=v.natAbs) (t:=t) h (by omega)
    omega
theorem Agv (b:Nat):(mD (A8 (b:Int))*mD (A8 (b:Int))).natAbs<2^106:=by
  have hm:=Ei b
  have ha:=Xa b
  have h1:(mD (A8 (b:Int))).natAbs<2^53:=by
    have:=Rs (A8 (b:Int))
    omega
  rw [Int.natAbs_mul]
  exact Nat.lt_of_lt_of_le (Nat.mul_lt_mul'' h1 h1) (by decide)
theorem Dw.Ce.known:Dw.Ce.Kn:=Dw.Ce.Ad (.cons Ay.Add.known (.cons Ay.Mul.known (.cons Bb.Value.known .nil))) fun x hp=>by
  obtain ⟨h1,h2⟩:=Af.1 (show (C4 x&&Cn (List.length x=1))=true from hp)
  obtain ⟨b,rfl⟩:=List.length_eq_one_iff.1 (Ao.1 h2)
  have hb:Ai b=true:=Ao.1 (W4 h1) b List.mem_cons_self
  obtain ⟨n,rfl,hn⟩:=Bt hb
  obtain ⟨v1,v2,v3⟩:=Ams n
  have pe:=Ea n
  have hv:=Xa n
  have hm:=Ei n
  have hl:C9 (mD (A8 (n:Int))).natAbs<3:=Nat.lt_of_le_of_lt (J3 (Rs _)) v1
  have oM:Xs (Ar (mD (A8 (n:Int)))) (Ag (mD (A8 (n:Int))))=true:=Anr (by omega)
  have oE:Ta (eD (A8 (n:Int)) (Aw (n:Int)))=true:=Ao.2 ⟨v2,v3⟩
  have hs:=Agv n
  have hl2:C9 (mD (mD (A8 (n:Int))*mD (A8 (n:Int)))).natAbs<5:=Nat.lt_of_le_of_lt (J3 (Rs _)) (X7 (k:=4) (Nat.lt_of_lt_of_le hs (by decide)) (by omega))
  have oV:Vn (Ar (mD (mD (A8 (n:Int))*mD (A8 (n:Int))))) (Ag (mD (mD (A8 (n:Int))*mD (A8 (n:Int)))))=true:=Ahe (by omega)
  have ee:-1074≤eD (A8 (n:Int)) (Aw (n:Int))∨eD (A8 (n:Int)) (Aw (n:Int))=0:=by
    by_cases k:A8 (n:Int)=0
    · right; unfold eD; rw [if_pos k]
    · left; exact Aqn pe.1 k
  have e2:eD (A8 (n:Int)) (Aw (n:Int))≤1025:=by
    unfold eD
    by_cases k:A8 (n:Int)=0
    · rw [if_pos k]; omega
    · rw [if_neg k]
      have:=Tm (m:=(A8 (n:Int)).natAbs) (t:=53) (by rw [hv]; exact hm) (by omega)
      have:Aw (n:Int)≤972:=pe.2
      omega
  have oE2:Ta (eD (mD (A8 (n:Int))*mD (A8 (n:Int))) (eD (A8 (n:Int)) (Aw (n:Int))+eD (A8 (n:Int)) (Aw (n:Int))))=true:=Aix hs (by decide) (by omega) (by decide)
  have z:wv false []=0:=by decide
  refine ⟨2,Dw.Ce.out [.l [(n:Int)]],[],?_,Wk.Ip (.cons .bool (.cons .Ajh (.cons .int .nil)))⟩
  rw [Dw.Ce.ev,Dw.Ce.At,Aq]
  simp only [Fy,List.getD_cons_zero,List.length_singleton]
  rw [Aqx (show (0:Int)<((1:Nat):Int) by decide),Aqw,Aqw,hb,Aqw,oM,oE,Aq2,Aq2,Aqw,oV,oE2,show Vn false []=true from Ahe (v:=0) (by decide),show Ta 0=true from Ao.2 (by decide),Aq2,Aq2,Aq2,Aqw,Dw.Ce.Cc,Aq,Aq1 (by simp),Aq0]
  rfl
theorem B1.one.known:B1.one.Kn:=B1.one.Ad .nil fun b _ =>
  ⟨0,_,[4],B1.one.ev 0 b,Aba (List.mem_singleton.2 rfl)⟩
theorem An1:gX 1 0 [] 1 1 [4607182418800017408] 1 1 [4613937818241073152]=(0,1,[],0):=by decide +kernel
theorem An0:gY 1 0 [] 1 1 [4607182418800017408] 1 1 [4613937818241073152]=(1,1,[4613937818241073152],0):=by decide +kernel
theorem Aie {x:Int} (h:decide (0≤x∧x<18446744073709551616)=true):Ah [x]=true:=Ao.2 fun y hy=>by
  rw [List.mem_singleton.1 hy]; exact Ao.2 (of_decide_eq_true h)
theorem Anp {x:Int} (h:decide (0≤x∧x<18446744073709551616)=true):C4 [x]=true:=Ao.2 ⟨by simp,fun y hy=>by
  rw [List.mem_singleton.1 hy]; exact Ao.2 (of_decide_eq_true h)⟩
theorem Agu:sqM 4613937818241073152=9:=by decide +kernel
theorem B1.F9.known:B1.F9.Kn:=B1.F9.Ad (.cons A2.Solve.known (.cons B1.one.known (.cons Ay.Du.known (.cons Dw.Ce.known .nil)))) fun _ _=>by
  have a1:R7 [] [4607182418800017408] [4613937818241073152]=true:=by
    unfold R7
    rw [Aie (by decide),Aie (x:=4613937818241073152) (by decide),El]; rfl
  have o1:C4 [4613937818241073152]=true:=Anp (by decide)
  have o2:Cn (List.length [(4613937818241073152:Int)]=1)=true:=Ao.2 rfl
  have o3:Jr (Ar 9) (Ag 9)=true:=Jd (by decide)
  refine ⟨0,B1.F9.out [],[],?_,.bool⟩
  rw [B1.F9.ev,a1,An1,An0]
  simp only [List.getD_cons_zero,Agu,Fy,o1,o2,o3]
  rfl
open EqLaw21
theorem Aqk {r c:Int} {l:List Int} {p q:Int} {m:List Int} {u v:Int} {h:List Int} (e:(gX r c l p q m u v h).2.2.2≠0):(gY r c l p q m u v h).2.2.1=[]:=by
  unfold gX gX2 at e
  unfold gY gY2
  by_cases k1:Hw r c l p q m u v h≠0
  · rw [if_pos k1]; rfl
  · rw [if_neg k1] at e ⊢
    by_cases k2:gE r c l p q m u v h≠0
    · rw [if_pos k2]; rfl
    · rw [if_neg k2] at e ⊢
      by_cases k3:(gY0 r c l p q m u v h).2.2.2≠0
      · rw [if_pos k3]; rfl
      · rw [if_neg k3] at e ⊢
        by_cases k4:Nw (gF r c (gC r c l u v h) (gC r c l p q m) (gY0 r c l p q m u v h))≠0
        · rw [if_pos k4]; rfl
        · rw [if_neg k4] at e ⊢
          rw [if_pos e]; rfl
theorem Aqj {r c:Int} {l:List Int} {p q:Int} {m:List Int} {u v:Int} {h:List Int} (e:(gX r c l p q m u v h).2.2.2=0) :
    Hw r c l p q m u v h=0∧gE r c l p q m u v h=0∧(gY0 r c l p q m u v h).2.2.2=0∧gY r c l p q m u v h=gY0 r c l p q m u v h:=by
  unfold gX gX2 at e
  unfold gY gY2
  by_cases k1:Hw r c l p q m u v h≠0
  · rw [if_pos k1] at e; exact absurd e k1
  · rw [if_neg k1] at e ⊢
    by_cases k2:gE r c l p q m u v h≠0
    · rw [if_pos k2] at e; exact absurd e k2
    · rw [if_neg k2] at e ⊢
      by_cases k3:(gY0 r c l p q m u v h).2.2.2≠0
      · rw [if_pos k3] at e; exact absurd e k3
      · rw [if_neg k3] at e ⊢
        by_cases k4:Nw (gF r c (gC r c l u v h) (gC r c l p q m) (gY0 r c l p q m u v h))≠0
        · rw [if_pos k4] at e; exact absurd e (by decide)
        · rw [if_neg k4] at e ⊢
          rw [if_neg (fun h=>h e)]
          exact ⟨Decidable.byContradiction k1,Decidable.byContradiction k2,Decidable.byContradiction k3,rfl⟩
theorem Ai4 (x:List Int):M3 x []=0:=by
  cases x<;>rfl
theorem Ahm {R C:Nat} {x y:MX} (hx:G2 R 0 x) (hy:G2 0 C y):mulM x y=((R:Int),(C:Int),Ci R C (fun _ _=>0),0):=by
  have hr:=hx.right
  have hg:=hy.right
  obtain ⟨l,rfl,r6,_,hl,al⟩:=hx
  obtain ⟨m,rfl,_,q6,hm,am⟩:=hy
  unfold mulM Mc
  rw [hr,hg,Aq2,if_pos rfl,if_pos rfl]
  dsimp only
  rw [Aqy,Aqy]
  have e:(Ci R C fun (i k:Nat)=>M3 (Ko ((0:Nat):Int) l (i:Int)) (Oq ((0:Nat):Int) (C:Int) m (k:Int)))=Ci R C fun _ _=>0:=Dh fun i k _ _=>Ai4 _
  rw [e]
theorem Alm {C K:Nat} {x y:MX} (hx:G2 0 C x) (hy:G2 0 K y) (e:(erY x y).2.2.2=0):erY x y=((C:Int),(K:Int),Ci C K (fun _ _=>0),0):=by
  unfold erY at e ⊢
  by_cases k1:Q6 x.1 x.2.1 x.2.2.1≠0
  · rw [if_pos k1] at e; exact absurd e k1
  · rw [if_neg k1] at e ⊢
    by_cases k2:Sm (U6 x)=true
    · rw [if_pos k2] at e; exact absurd e (by decide)
    · rw [if_neg k2] at e ⊢
      by_cases k3:(Um (U6 x) y).2.2.2≠0
      · rw [if_pos k3] at e; exact absurd e k3
      · rw [if_neg k3] at e ⊢
        obtain ⟨hL,hQ,_,_⟩:=hx.lq (Decidable.byContradiction k1)
        have hS:G2 0 0 (U6 x):=by
          have:=hL.part (i:=0) (k:=0) (a:=0) (b:=0) (by omega) (by omega)
          unfold U6; rw [hx.rows] at this ⊢; exact this
        have hO:G2 0 C (erO x):=by
          have:=hQ.part (i:=0) (k:=0) (a:=0) (b:=C) (by omega) (by omega)
          unfold erO; rw [hQ.Aoe]; rw [hx.rows] at this ⊢; exact this
        obtain ⟨hw,_⟩:=hS.lo hy (Decidable.byContradiction k3)
        rw [Pa hO,Ahm hO.To hw] at e ⊢
        unfold Afk Afl at e ⊢
        rw [if_neg (fun h=>h rfl)] at e ⊢
        by_cases k4:B5 (C:Int) (K:Int) (Ci C K (fun _ _=>0))≠0
        · rw [if_pos k4] at e; exact absurd e (by decide)
        · rw [if_neg k4]
theorem Zb {N:Nat} {n b:Nat} {l m h:List Int} (hy:(gY (n:Int) (n:Int) l (n:Int) (b:Int) m (n:Int) 1 h).2.2.1=List.replicate b 0) (b6:b≤6):∀ (k i F:Nat),i+k=b→k<F →
    B1.Bv.L0 N F (n:Int) (n:Int) l (n:Int) (b:Int) m (n:Int) 1 h (i:Int)=some (.bool true):=by
  intro k
  induction k with
  | zero =>
    intro i F hi hF
    obtain ⟨F,rfl⟩:∃ G,F=G+1:=⟨F-1,by omega⟩
    obtain rfl:i=b:=by omega
    rw [B1.Bv.At,hy,List.length_replicate,Aq,Aq1 (by omega),Aq0,beq_self_eq_true]
    rfl
  | succ k ih =>
    intro i F hi hF
    obtain ⟨F,rfl⟩:∃ G,F=G+1:=⟨F-1,by omega⟩
    have e0:List.getD (List.replicate b (0:Int)) i 0=0:=by
      rw [Aq6,List.getElem?_replicate]
      split<;>rfl
    have:=ih (i+1) F (by omega) (by omega)
    rw [B1.Bv.At,hy,List.length_replicate,Aq,Aqx (by omega),Aqw,Aqx (by omega),Aq2,Aqw,Aqy,e0,show Ph 0=true from Ud 0,Aqw,
      show (A4 0 !=(0:Int))=false by decide,Aq0,An (by omega) (by omega)]
    exact this
theorem B1.Bv.known:B1.Bv.Kn:=B1.Bv.Ad (.cons A2.Solve.known (.cons B1.F9.known (.cons Bb.Kind.known .nil))) fun r c l p q m u v h hp=>by
  have h0:R7 l m h=true:=hp
  obtain ⟨h1,ah⟩:=Af.1 (show ((Ah l&&Ah m)&&Ah h)=true from h0)
  obtain ⟨al,am⟩:=Af.1 h1
  refine ⟨7,B1.Bv.out [.i r,.i c,.l l,.i p,.i q,.l m,.i u,.i v,.l h],[],?_,.bool⟩
  show _=some (DV.bool true)
  rw [B1.Bv.ev]
  by_cases k:r=c
  · rw [show (r !=c)=false by rw [k]; simp,Aq0,h0,Aqw]
    by_cases ke:(gX r c l p q m u v h).2.2.2=0
    · rw [Fo ke,Aq0]
      obtain ⟨k0,k2,k3,e⟩:=Aqj ke
      obtain ⟨k1,k2',k3',e1,e2,e3,e4,e5⟩:=Ts k0
      obtain ⟨n,n1,rfl,rfl,hA,fA⟩:=G2.Abz k1 al
      obtain ⟨n',b,rfl,rfl,hB,fB⟩:=G2.Abz k2' am
      obtain ⟨n'',o,rfl,rfl,hD,fD⟩:=G2.Abz k3' ah
      obtain rfl:n1=n:=by omega
      obtain rfl:n'=n1:=by omega
      obtain rfl:n''=n':=by omega
      obtain rfl:o=1:=by omega
      have kf:Gl (n'':Int) (n'':Int) l=0:=by
        unfold gE at k2
        by_cases kf:Gl (n'':Int) (n'':Int) l≠0
        · rw [if_pos kf] at k2; exact k2
        · exact Decidable.byContradiction kf
      obtain ⟨hQ,hR,_,_⟩:=hA.fac kf
      have hC:G2 n'' 1 (gC (n'':Int) (n'':Int) l (n'':Int) ((1:Nat):Int) h):=by
        have:=hQ.To.mul hD
        rw [← Pa hQ] at this; exact this
      have hW:G2 n'' b (gC (n'':Int) (n'':Int) l (n'':Int) (b:Int) m):=by
        have:=hQ.To.mul hB
        rw [← Pa hQ] at this; exact this
      have ek:(n'':Int)-(n'':Int)=((0:Nat):Int):=by omega
      have hLC:G2 0 1 (Fa (n'':Int) (n'':Int) (gC (n'':Int) (n'':Int) l (n'':Int) ((1:Nat):Int) h)):=by unfold Fa; rw [hC.Aoe,ek]; exact hC.part (i:=n'') (k:=0) (by omega) (by omega)
      have hLW:G2 0 b (Fa (n'':Int) (n'':Int) (gC (n'':Int) (n'':Int) l (n'':Int) (b:Int) m)):=by unfold Fa; rw [hW.Aoe,ek]; exact hW.part (i:=n'') (k:=0) (by omega) (by omega)
      have hy:=Alm hLW hLC k3
      have hb:=hB.c6
      have hz:(gY (n'':Int) (n'':Int) l (n'':Int) (b:Int) m (n'':Int) ((1:Nat):Int) h).2.2.1=List.replicate b 0:=by
        rw [e]
        refine (congrArg (fun z:MX=>z.2.2.1) hy).trans ?_
        show Ci b 1 (fun _ _=>0)=_
        rw [Acg,Nat.mul_one]
      exact Zb hz hb b 0 7 (by omega) (by omega)
    · rw [Rq ke,Aqw,Aqk ke]; rfl
  · rw [show (r !=c)=true by simpa using k,Aqw]
end Go.Proofs.S1
end
