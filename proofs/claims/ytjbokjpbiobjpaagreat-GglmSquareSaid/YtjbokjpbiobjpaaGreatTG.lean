/- A verified evaluator of the program's form and its use for this seat: S1PRefBa, S1EqRefC, S1PRefC, S1PRefCa, S1EqRefE, S1PRefV, S1PPack, S1PNear, S1EqSum, S1PSum. -/
import Derived.Test.YtjbokjpbiobjpaaGreatTF
import Derived.Test.YtjbokjpbiobjpaaGreatTE
set_option linter.unusedVariables false
set_option linter.unusedSimpArgs false
noncomputable section
namespace Go.Proofs.S1
open Go Go.Den Go.Rnd Go.Proofs
open EqRefB
theorem Ac.Tj.known:Ac.Tj.Kn:=Ac.Tj.Ad .nil fun n a hp=>by
  obtain ⟨v,rfl,rfl,hv⟩:=Hz hp
  refine ⟨0,Ac.Tj.out [.b (Ar v),.l (Ag v)],[],?_,.bool⟩
  show _=some (DV.bool (Aes (wv (Ar v) (Ag v))))
  rw [Ac.Tj.ev,Fy,Qr]
  have hg:=Mf (Ff v) 0
  rw [Da,Nat.mul_zero,Nat.pow_zero,Nat.div_one] at hg
  have e2:Int.tmod ((v.natAbs%4294967296:Nat):Int) 2=((v.natAbs%4294967296%2:Nat):Int):=G7 _ 2
  unfold Aes
  by_cases h0:v=0
  · rw [h0]; rfl
  · have hl:=I6 (n:=v.natAbs) (by omega)
    rw [hg,e2,Aqx h0,Bx,Aqx (by omega),Bool.or_true,Aqw,Aqw]
    congr 2
    rw [Arc]
    simp only [beq_iff_eq,Aq3]
    omega
theorem Uo (N:Nat) (n m:Bool) {a b:List Int} (hab:a.length=b.length) (hl:a.length<1073741824):∀ (k i F:Nat),i+k=a.length→k<F →
    Ac.Du.L0 N F n a m b (i:Int)=some (.bool (decide (a.drop i=b.drop i))):=by
  intro k
  induction k with
  | zero =>
    intro i F hi hF
    obtain ⟨F,rfl⟩:∃ G,F=G+1:=⟨F-1,by omega⟩
    have e:a.drop i=b.drop i:=by rw [Ara (by omega),Ara (by omega)]
    rw [Ac.Du.At,Aq,Aq1 (by omega),Aq0,Aqx e]
  | succ k ih =>
    intro i F hi hF
    obtain ⟨F,rfl⟩:∃ G,F=G+1:=⟨F-1,by omega⟩
    have ha:i<a.length:=by omega
    have hb:i<b.length:=by omega
    have ga:a.getD i 0=a[i]:=by rw [Aq6,Ard ha]; rfl
    have gb:b.getD i 0=b[i]:=by rw [Aq6,Ard hb]; rfl
    have t1:decide ((i:Int)<(a.length:Int))=true:=Aqx (by omega)
    have t2:decide ((i:Int)<(b.length:Int))=true:=Aqx (by omega)
    have t0:decide ((0:Int)≤(i:Int))=true:=Aqx (by omega)
    rw [Ac.Du.At,Aq,t1,t2,t0,Aq2,Aqw,Aqw,Aqw,Aqy,ga,gb,List.drop_eq_getElem_cons ha,List.drop_eq_getElem_cons hb,An (by omega) (by omega)]
    by_cases h:a[i]=b[i]
    · have e:(a[i] !=b[i])=false:=by simp [h]
      have e1:(i:Int)+1=((i+1:Nat):Int):=by omega
      rw [e,Aq0,e1,ih (i+1) F (by omega) (by omega),h]
      congr 2
      rw [decide_eq_decide,List.cons.injEq]
      exact ⟨fun k=>⟨rfl,k⟩,fun k=>k.2⟩
    · have e:(a[i] !=b[i])=true:=by simp [h]
      rw [e,Aqw,Aq1 (fun k=>h (List.cons.inj k).1)]
theorem Acd {v w:Int} (h1:Ar v=Ar w) (h2:Ag v=Ag w):v=w:=by
  have e1:=Fy v
  have e2:=Fy w
  rw [h1,h2] at e1
  omega
theorem Ac.Du.known:Ac.Du.Kn:=Ac.Du.Ad .nil fun n a m b hp=>by
  obtain ⟨h1,h2⟩:=Af.1 hp
  obtain ⟨v,rfl,rfl,hv⟩:=Hz h1
  obtain ⟨w,rfl,rfl,hw⟩:=Hz h2
  refine ⟨(Ag v).length+1,Ac.Du.out [.b (Ar v),.l (Ag v),.b (Ar w),.l (Ag w)],[],?_,.bool⟩
  show _=some (DV.bool (Ty (wv (Ar v) (Ag v)) (wv (Ar w) (Ag w))))
  rw [Ac.Du.ev,Fy,Fy]
  unfold Ty
  by_cases hs:Ar v=Ar w
  · have e:(Ar v==Ar w)=true:=by simp [hs]
    rw [e,Bool.not_true,Bool.false_or]
    by_cases hl:(Ag v).length=(Ag w).length
    · have e:(((Ag v).length:Int) !=((Ag w).length:Int))=false:=by simp [hl]
      have hlen:=Bx v
      have:=Uo ((Ag v).length+1) (Ar v) (Ar w) hl (by omega) (Ag v).length 0 ((Ag v).length+1) (by omega) (by omega)
      rw [List.drop_zero,List.drop_zero] at this
      have e2:decide (Ag v=Ag w)=decide (v=w):=decide_eq_decide.2 ⟨Acd hs,fun k=>by rw [k]⟩
      rw [e2] at this
      rw [e,Aq0]
      exact this
    · have e:(((Ag v).length:Int) !=((Ag w).length:Int))=true:=by simp only [bne_iff_ne,ne_eq]; omega
      rw [e,Aqw,Aq1 (fun k=>hl (by rw [k]))]
  · have e:(Ar v==Ar w)=false:=by simp [hs]
    rw [e,Bool.not_false,Bool.true_or,Aqw,Aq1 (fun k=>hs (by rw [k]))]
set_option maxRecDepth 100000
namespace EqRefC
def Ay.Of.hint:Nat→Option A6
  | 0=>some { keep:=[1,2,4],objs:=[],boxes:=[2,4] }
  | 2=>some { keep:=[1,2,4],objs:=[],boxes:=[2,4] }
  | _=>none
def Ay.Of.Ba:List (Nat × Entry):=[(173,Ac.Gc.spec),(171,Ac.Made.spec),(172,Ac.Tj.spec)]
def Ay.Of.E:Env:=Bc (A9 Ay.Of.Ba) (fun _=>false) Ay.Of.hint (fun _=>none)
def Ay.Of.L0 (N M:Nat) (p1:Int) (p2:Bool) (p2_1:List Int):Option DV:=B2 Ay.Of.E N Tryz.f109 (Am Tryz.f109) [1,1,0,0] [] M ⟨Fw 33 [(1,.int .i64 p1),(2,.ptr 2 0 0),(4,.ptr 4 0 0)],[(2,false,.box [.bool p2,.ints .arg .u32 p2_1]),(4,false,.box [.bool false,.nil,.int .i64 0])]⟩
def Ay.Of.L1 (N M:Nat) (p1_1:Int) (p2_2:Bool) (p2_3:List Int):Option DV:=B2 Ay.Of.E N Tryz.f109 (Am Tryz.f109) [1,1,1,0,0] [] M ⟨Fw 33 [(1,.int .i64 p1_1),(2,.ptr 2 0 0),(4,.ptr 4 0 0)],[(2,false,.box [.bool p2_2,.ints .arg .u32 p2_3]),(4,false,.box [.bool false,.nil,.int .i64 0])]⟩
theorem Ay.Of.At (N M:Nat) (p1:Int) (p2:Bool) (p2_1:List Int):Ay.Of.L0 N (M+1) p1 p2 p2_1=bif (decide ((0:Int)<(List.length p2_1:Int))) then bif ((List.getD p2_1 0 0)==(0:Int)) then bif (decide ((1:Int)≤(List.length p2_1:Int))) then bif (E5 (List.drop 1 p2_1)) then Ay.Of.L0 N M (Ab (p1+32)) (Ar (wv p2 (List.drop 1 p2_1))) (Ag (wv p2 (List.drop 1 p2_1))) else none else none else Ay.Of.L1 N N p1 p2 p2_1 else none :=
  Eq.trans (by kernel_rfl)
  (E3 (E3 (C0 (Apk (decide ((1:Int)≤(List.length p2_1:Int)))) (C0 (C3 (E5 (List.drop 1 p2_1))) rfl rfl) rfl) rfl) rfl)
theorem Ay.Of.Cc (N M:Nat) (p1_1:Int) (p2_2:Bool) (p2_3:List Int):Ay.Of.L1 N (M+1) p1_1 p2_2 p2_3=bif (Jr p2_2 p2_3) then bif (!(Aes (wv p2_2 p2_3))) then bif (Jr p2_2 p2_3) then Ay.Of.L1 N M (Ab (p1_1+1)) (Ar (Is (wv p2_2 p2_3) 1)) (Ag (Is (wv p2_2 p2_3) 1)) else none else some (.agg [.bool p2_2,.ints .arg .u32 p2_3,.int .i64 p1_1]) else none:=by kernel_rfl
theorem Ay.Of.ev (N:Nat) (n:Bool) (a:List Int) (e:Int):By Ay.Of.E N Tryz.f109 (Am Tryz.f109) [.agg [.bool n,.ints .arg .u32 a],.int .i64 e]=bif ((List.length a:Int)==(0:Int)) then some (.agg [.bool false,.nil,.int .i64 0]) else Ay.Of.L0 N N e n a:=by kernel_rfl
abbrev _root_.Go.Proofs.S1.Ay.Of.Kn:=A7 Tryz.prog 109 Ay.Of.spec
theorem Ay.Of.Ad (hk:Ax Tryz.prog Ay.Of.Ba) (h:∀ (n:Bool) (a:List Int) (e:Int),Ay.Of.pre [.b n,.l a,.i e]=true→Bd Ay.Of.E Tryz.f109 [.agg [.bool n,.ints .arg .u32 a],.int .i64 e] (Ay.Of.out [.b n,.l a,.i e])):Ay.Of.Kn :=
  Al (A0 hk _ _ _) Tryz.func109 (by kernel_rfl) (by kernel_rfl) h
def Ay.Tk.Ba:List (Nat × Entry):=[]
def Ay.Tk.E:Env:=Bc (A9 Ay.Tk.Ba) (fun _=>false) (fun _=>none) (fun _=>none)
theorem Ay.Tk.ev (N:Nat) (n:Bool) (a:List Int) (e:Int) (m:Bool) (b:List Int) (f:Int):By Ay.Tk.E N Tryz.f111 (Am Tryz.f111) [.agg [.bool n,.ints .arg .u32 a,.int .i64 e],.agg [.bool m,.ints .arg .u32 b,.int .i64 f]]=bif ((List.length a:Int)==(0:Int)) then some (.int .i64 f) else bif ((List.length b:Int)==(0:Int)) then some (.int .i64 e) else some (.int .i64 (min e f)):=by kernel_rfl
abbrev _root_.Go.Proofs.S1.Ay.Tk.Kn:=A7 Tryz.prog 111 Ay.Tk.spec
theorem Ay.Tk.Ad (hk:Ax Tryz.prog Ay.Tk.Ba) (h:∀ (n:Bool) (a:List Int) (e:Int) (m:Bool) (b:List Int) (f:Int),Ay.Tk.pre [.b n,.l a,.i e,.b m,.l b,.i f]=true→Bd Ay.Tk.E Tryz.f111 [.agg [.bool n,.ints .arg .u32 a,.int .i64 e],.agg [.bool m,.ints .arg .u32 b,.int .i64 f]] (Ay.Tk.out [.b n,.l a,.i e,.b m,.l b,.i f])):Ay.Tk.Kn :=
  Al (A0 hk _ _ _) Tryz.func111 (by kernel_rfl) (by kernel_rfl) h
def Ay.Level.Ba:List (Nat × Entry):=[(178,Ac.Bp.spec)]
def Ay.Level.E:Env:=Bc (A9 Ay.Level.Ba) (fun _=>false) (fun _=>none) (fun _=>none)
theorem Ay.Level.ev (N:Nat) (n:Bool) (a:List Int) (e f:Int):By Ay.Level.E N Tryz.f113 (Am Tryz.f113) [.agg [.bool n,.ints .arg .u32 a,.int .i64 e],.int .i64 f]=bif ((List.length a:Int)==(0:Int)) then some (.agg [.bool n,.ints .arg .u32 a]) else bif (Vn n a&&Anq (Ab (e-f))) then some (.agg [.bool (Ar (Gn (wv n a) (Ab (e-f)))),.ints .arg .u32 (Ag (Gn (wv n a) (Ab (e-f))))]) else none:=by kernel_rfl
abbrev _root_.Go.Proofs.S1.Ay.Level.Kn:=A7 Tryz.prog 113 Ay.Level.spec
theorem Ay.Level.Ad (hk:Ax Tryz.prog Ay.Level.Ba) (h:∀ (n:Bool) (a:List Int) (e f:Int),Ay.Level.pre [.b n,.l a,.i e,.i f]=true→Bd Ay.Level.E Tryz.f113 [.agg [.bool n,.ints .arg .u32 a,.int .i64 e],.int .i64 f] (Ay.Level.out [.b n,.l a,.i e,.i f])):Ay.Level.Kn :=
  Al (A0 hk _ _ _) Tryz.func113 (by kernel_rfl) (by kernel_rfl) h
def Ay.Add.Ba:List (Nat × Entry):=[(112,Ac.Add.spec),(113,Ay.Level.spec),(111,Ay.Tk.spec),(109,Ay.Of.spec)]
def Ay.Add.E:Env:=Bc (A9 Ay.Add.Ba) (fun _=>false) (fun _=>none) (fun _=>none)
theorem Ay.Add.ev (N:Nat) (n:Bool) (a:List Int) (e:Int) (m:Bool) (b:List Int) (f:Int):By Ay.Add.E N Tryz.f42 (Am Tryz.f42) [.agg [.bool n,.ints .arg .u32 a,.int .i64 e],.agg [.bool m,.ints .arg .u32 b,.int .i64 f]]=bif (Jr n a&&Jr m b) then bif (Vn n a&&Zw (wv n a) e (Cx (wv n a) e (wv m b) f)) then bif (Vn m b&&Zw (wv m b) f (Cx (wv n a) e (wv m b) f)) then bif (Jr (Ar (Gn (wv n a) (e-(Cx (wv n a) e (wv m b) f)))) (Ag (Gn (wv n a) (e-(Cx (wv n a) e (wv m b) f))))&&Jr (Ar (Gn (wv m b) (f-(Cx (wv n a) e (wv m b) f)))) (Ag (Gn (wv m b) (f-(Cx (wv n a) e (wv m b) f))))) then bif (Jr (Ar (wv (Ar (Gn (wv n a) (e-(Cx (wv n a) e (wv m b) f)))) (Ag (Gn (wv n a) (e-(Cx (wv n a) e (wv m b) f))))+wv (Ar (Gn (wv m b) (f-(Cx (wv n a) e (wv m b) f)))) (Ag (Gn (wv m b) (f-(Cx (wv n a) e (wv m b) f)))))) (Ag (wv (Ar (Gn (wv n a) (e-(Cx (wv n a) e (wv m b) f)))) (Ag (Gn (wv n a) (e-(Cx (wv n a) e (wv m b) f))))+wv (Ar (Gn (wv m b) (f-(Cx (wv n a) e (wv m b) f)))) (Ag (Gn (wv m b) (f-(Cx (wv n a) e (wv m b) f))))))&&Ro (Cx (wv n a) e (wv m b) f)) then some (.agg [.bool (Ar (mD (wv (Ar (wv (Ar (Gn (wv n a) (e-(Cx (wv n a) e (wv m b) f)))) (Ag (Gn (wv n a) (e-(Cx (wv n a) e (wv m b) f))))+wv (Ar (Gn (wv m b) (f-(Cx (wv n a) e (wv m b) f)))) (Ag (Gn (wv m b) (f-(Cx (wv n a) e (wv m b) f)))))) (Ag (wv (Ar (Gn (wv n a) (e-(Cx (wv n a) e (wv m b) f)))) (Ag (Gn (wv n a) (e-(Cx (wv n a) e (wv m b) f))))+wv (Ar (Gn (wv m b) (f-(Cx (wv n a) e (wv m b) f)))) (Ag (Gn (wv m b) (f-(Cx (wv n a) e (wv m b) f))))))))),.ints .arg .u32 (Ag (mD (wv (Ar (wv (Ar (Gn (wv n a) (e-(Cx (wv n a) e (wv m b) f)))) (Ag (Gn (wv n a) (e-(Cx (wv n a) e (wv m b) f))))+wv (Ar (Gn (wv m b) (f-(Cx (wv n a) e (wv m b) f)))) (Ag (Gn (wv m b) (f-(Cx (wv n a) e (wv m b) f)))))) (Ag (wv (Ar (Gn (wv n a) (e-(Cx (wv n a) e (wv m b) f)))) (Ag (Gn (wv n a) (e-(Cx (wv n a) e (wv m b) f))))+wv (Ar (Gn (wv m b) (f-(Cx (wv n a) e (wv m b) f)))) (Ag (Gn (wv m b) (f-(Cx (wv n a) e (wv m b) f))))))))),.int .i64 (eD (wv (Ar (wv (Ar (Gn (wv n a) (e-(Cx (wv n a) e (wv m b) f)))) (Ag (Gn (wv n a) (e-(Cx (wv n a) e (wv m b) f))))+wv (Ar (Gn (wv m b) (f-(Cx (wv n a) e (wv m b) f)))) (Ag (Gn (wv m b) (f-(Cx (wv n a) e (wv m b) f)))))) (Ag (wv (Ar (Gn (wv n a) (e-(Cx (wv n a) e (wv m b) f)))) (Ag (Gn (wv n a) (e-(Cx (wv n a) e (wv m b) f))))+wv (Ar (Gn (wv m b) (f-(Cx (wv n a) e (wv m b) f)))) (Ag (Gn (wv m b) (f-(Cx (wv n a) e (wv m b) f))))))) (Cx (wv n a) e (wv m b) f))]) else none else none else none else none else none :=
  Eq.trans (by kernel_rfl)
  (E3 (C0 (C3 (Vn n a&&Zw (wv n a) e (Cx (wv n a) e (wv m b) f))) (C0 (C3 (Vn m b&&Zw (wv m b) f (Cx (wv n a) e (wv m b) f))) (C0 (C3 (Jr (Ar (Gn (wv n a) (e-(Cx (wv n a) e (wv m b) f)))) (Ag (Gn (wv n a) (e-(Cx (wv n a) e (wv m b) f))))&&Jr (Ar (Gn (wv m b) (f-(Cx (wv n a) e (wv m b) f)))) (Ag (Gn (wv m b) (f-(Cx (wv n a) e (wv m b) f)))))) (C0 (C3 (Jr (Ar (wv (Ar (Gn (wv n a) (e-(Cx (wv n a) e (wv m b) f)))) (Ag (Gn (wv n a) (e-(Cx (wv n a) e (wv m b) f))))+wv (Ar (Gn (wv m b) (f-(Cx (wv n a) e (wv m b) f)))) (Ag (Gn (wv m b) (f-(Cx (wv n a) e (wv m b) f)))))) (Ag (wv (Ar (Gn (wv n a) (e-(Cx (wv n a) e (wv m b) f)))) (Ag (Gn (wv n a) (e-(Cx (wv n a) e (wv m b) f))))+wv (Ar (Gn (wv m b) (f-(Cx (wv n a) e (wv m b) f)))) (Ag (Gn (wv m b) (f-(Cx (wv n a) e (wv m b) f))))))&&Ro (Cx (wv n a) e (wv m b) f))) rfl rfl) rfl) rfl) rfl) rfl)
abbrev _root_.Go.Proofs.S1.Ay.Add.Kn:=A7 Tryz.prog 42 Ay.Add.spec
theorem Ay.Add.Ad (hk:Ax Tryz.prog Ay.Add.Ba) (h:∀ (n:Bool) (a:List Int) (e:Int) (m:Bool) (b:List Int) (f:Int),Ay.Add.pre [.b n,.l a,.i e,.b m,.l b,.i f]=true→Bd Ay.Add.E Tryz.f42 [.agg [.bool n,.ints .arg .u32 a,.int .i64 e],.agg [.bool m,.ints .arg .u32 b,.int .i64 f]] (Ay.Add.out [.b n,.l a,.i e,.b m,.l b,.i f])):Ay.Add.Kn :=
  Al (A0 hk _ _ _) Tryz.func42 (by kernel_rfl) (by kernel_rfl) h
def Ay.Du.Ba:List (Nat × Entry):=[(133,Ac.Du.spec)]
def Ay.Du.E:Env:=Bc (A9 Ay.Du.Ba) (fun _=>false) (fun _=>none) (fun _=>none)
theorem Ay.Du.ev (N:Nat) (n:Bool) (a:List Int) (e:Int) (m:Bool) (b:List Int) (f:Int):By Ay.Du.E N Tryz.f54 (Am Tryz.f54) [.agg [.bool n,.ints .arg .u32 a,.int .i64 e],.agg [.bool m,.ints .arg .u32 b,.int .i64 f]]=bif ((!(e==f))||(Jr n a&&Jr m b)) then some (.bool (bif (e==f) then (Ty (wv n a) (wv m b)) else false)) else none :=
  Eq.trans (by kernel_rfl)
  (Au (N7 (e==f)) (Au (Kq (e==f)) (Au (N7 (e==f)) (Au (Kq (e==f)) (C0 (tt87 (e==f) (Jr n a&&Jr m b)) (Au (Q9 (e==f)) rfl) rfl)))))
abbrev _root_.Go.Proofs.S1.Ay.Du.Kn:=A7 Tryz.prog 54 Ay.Du.spec
theorem Ay.Du.Ad (hk:Ax Tryz.prog Ay.Du.Ba) (h:∀ (n:Bool) (a:List Int) (e:Int) (m:Bool) (b:List Int) (f:Int),Ay.Du.pre [.b n,.l a,.i e,.b m,.l b,.i f]=true→Bd Ay.Du.E Tryz.f54 [.agg [.bool n,.ints .arg .u32 a,.int .i64 e],.agg [.bool m,.ints .arg .u32 b,.int .i64 f]] (Ay.Du.out [.b n,.l a,.i e,.b m,.l b,.i f])):Ay.Du.Kn :=
  Al (A0 hk _ _ _) Tryz.func54 (by kernel_rfl) (by kernel_rfl) h
end EqRefC
open EqRefC
def Ai1 (v e:Int):Option DV:=some (.agg [.bool (Ar v),.ints .arg .u32 (Ag v),.int .i64 e])
theorem wdy {drops:List Nat} {b:Bool} {l:List Int} {e:Int}:Wk drops (.agg [.bool b,.ints .arg .u32 l,.int .i64 e]) (.agg [.bool b,.ints .arg .u32 l,.int .i64 e]):=Wk.Ip (.cons .bool (.cons .Ajh (.cons .int .nil)))
theorem Aih (v:Int):(Ag v).getD 0 0=((v.natAbs%4294967296:Nat):Int):=by
  have hg:=Mf (Ff v) 0
  rw [Da,Nat.mul_zero,Nat.pow_zero,Nat.div_one] at hg
  exact hg
theorem Ada {v:Int} {k:Nat} (h:C9 v.natAbs<268435456):C9 (Is v k).natAbs<268435456:=by
  rw [Jo]
  exact Nat.lt_of_le_of_lt (J3 (Nat.div_le_self _ _)) h
theorem Agy {v:Int} {k:Nat} (h0:v≠0) (h:v.natAbs%2^k=0):Is v k≠0∧Q7 (Is v k).natAbs+k=Q7 v.natAbs:=by
  have hv:=Nat.div_add_mod v.natAbs (2^k)
  rw [h,Nat.add_zero,Nat.mul_comm] at hv
  have hq:v.natAbs / 2^k≠0:=by
    intro e; rw [e] at hv; omega
  have ht:=Xd hq k
  rw [hv] at ht
  have ha:=Jo v k
  refine ⟨by omega,?_⟩
  rw [ha]
  omega
theorem Ahf (N:Nat):∀ (F:Nat) (v e:Int),v≠0→Q7 v.natAbs<F→C9 v.natAbs<268435456→-4000000000000≤e→e+Q7 v.natAbs≤400000000000000 →
    Ay.Of.L1 N F e (Ar v) (Ag v)=Ai1 (mD v) (eD v e):=by
  intro F
  induction F with
  | zero=>intro v e _ h; omega
  | succ F ih =>
    intro v e h0 hF hv h1 h2
    rw [Ay.Of.Cc,Jd hv,Aqw,Fy]
    by_cases ho:v%2=1
    · have:Aes v=true:=Aqx ho
      rw [this,Bool.not_true,Aq0,Anu ho,Aob ho]
      rfl
    · have:Aes v=false:=Aq1 ho
      have hm:v.natAbs%2^1=0:=by rw [Nat.pow_one]; omega
      obtain ⟨n1,n2⟩:=Agy h0 hm
      rw [this,Bool.not_false,Aqw,Aqw,An (by omega) (by omega),ih (Is v 1) (e+1) n1 (by omega) (Ada hv) (by omega) (by omega),Ahs hm]
      have:=Aiw (e:=e) hm h0
      rw [← this]
      rfl
theorem Ahg (N:Nat):∀ (F:Nat) (v e:Int),v≠0→Q7 v.natAbs<F→Q7 v.natAbs<N→C9 v.natAbs<268435456→-4000000000000≤e→e+Q7 v.natAbs≤400000000000000 →
    Ay.Of.L0 N F e (Ar v) (Ag v)=Ai1 (mD v) (eD v e):=by
  intro F
  induction F with
  | zero=>intro v e _ h; omega
  | succ F ih =>
    intro v e h0 hF hN hv h1 h2
    have hl:=I6 (n:=v.natAbs) (by omega)
    rw [Ay.Of.At,Bx,Aqx (by omega),Aqw,Aih]
    by_cases hz:v.natAbs%4294967296=0
    · have e0:(((v.natAbs%4294967296:Nat):Int)==0)=true:=by rw [hz]; rfl
      have o3:E5 ((Ag v).drop 1)=true:=H0 (by rw [List.length_drop,Bx]; omega) (Aah (Ff v))
      have hm:v.natAbs%2^32=0:=by rw [two32]; exact hz
      obtain ⟨n1,n2⟩:=Agy h0 hm
      rw [e0,Aqw,Aqx (by omega),Aqw,o3,Aqw,Ac3,An (by omega) (by omega),ih (Is v 32) (e+32) n1 (by omega) (by omega) (Ada hv) (by omega) (by omega),Ahs hm]
      have:=Aiw (e:=e) hm h0
      rw [← this]
      rfl
    · have e0:(((v.natAbs%4294967296:Nat):Int)==0)=false:=by simp only [beq_eq_false_iff_ne,ne_eq]; omega
      rw [e0,Aq0]
      exact Ahf N N v e h0 hN hv h1 h2
theorem Agg {v:Int} (h0:v≠0) (h:C9 v.natAbs<268435456):Q7 v.natAbs<8589934592:=by
  have h1:=Amd (n:=v.natAbs) (by omega)
  have h2:=Afa (n:=v.natAbs)
  omega
theorem Ay.Of.known:Ay.Of.Kn:=Ay.Of.Ad (.cons Ac.Gc.known (.cons Ac.Made.known (.cons Ac.Tj.known .nil))) fun n a e hp=>by
  obtain ⟨h1,h2⟩:=Af.1 hp
  obtain ⟨v,rfl,rfl,hv⟩:=Hz h1
  have h2:=Ao.1 h2
  by_cases h0:v=0
  · subst h0
    refine ⟨0,.agg [.bool false,.nil,.int .i64 (0:Int)],[],?_,?_⟩
    · rw [Ay.Of.ev]; rfl
    · show Wk [] _ (.agg [.bool (Ar (mD (wv (Ar 0) (Ag 0)))),.ints .arg .u32 (Ag (mD (wv (Ar 0) (Ag 0)))),.int .i64 (eD (wv (Ar 0) (Ag 0)) e)])
      rw [Fy,Akz.2 rfl]
      exact Wk.Ip (.cons .bool (.cons (.nil _ _) (.cons .int .nil)))
  · refine ⟨Q7 v.natAbs+1,Ay.Of.out [.b (Ar v),.l (Ag v),.i e],[],?_,wdy⟩
    have ht:=Agg h0 hv
    have hl:=I6 (n:=v.natAbs) (by omega)
    have e0:(((Ag v).length:Int)==0)=false:=by rw [Bx]; simp only [beq_eq_false_iff_ne,ne_eq]; omega
    show _=Ai1 (mD (wv (Ar v) (Ag v))) (eD (wv (Ar v) (Ag v)) e)
    rw [Ay.Of.ev,e0,Aq0,Fy]
    exact Ahg _ _ v e h0 (by omega) (by omega) hv (by omega) (by omega)
theorem Us (v:Int):(((Ag v).length:Int)==0)=decide (v=0):=by
  rw [Bx,Arc]
  simp only [beq_iff_eq,Aq3]
  constructor
  · intro h
    rcases Int.lt_trichotomy v 0 with k | k | k
    · have:=I6 (n:=v.natAbs) (by omega); omega
    · exact k
    · have:=I6 (n:=v.natAbs) (by omega); omega
  · intro h; rw [h]; rfl
theorem Ay.Tk.known:Ay.Tk.Kn:=Ay.Tk.Ad .nil fun n a e m b f hp=>by
  obtain ⟨h1,h2⟩:=Af.1 hp
  obtain ⟨v,rfl,rfl,hv⟩:=Hz h1
  obtain ⟨w,rfl,rfl,hw⟩:=Hz h2
  refine ⟨0,Ay.Tk.out [.b (Ar v),.l (Ag v),.i e,.b (Ar w),.l (Ag w),.i f],[],?_,.int⟩
  show _=some (DV.int .i64 (Cx (wv (Ar v) (Ag v)) e (wv (Ar w) (Ag w)) f))
  rw [Ay.Tk.ev,Fy,Fy,Us,Us]
  unfold Cx
  by_cases h:v=0
  · rw [Aqx h,Aqw,if_pos h]
  · rw [Aq1 h,Aq0,if_neg h]
    by_cases h':w=0
    · rw [Aqx h',Aqw,if_pos h']
    · rw [Aq1 h',Aq0,if_neg h']
theorem Agx (k:Int):Gn 0 k=0:=by
  unfold Gn
  split
  · exact Int.zero_mul _
  · exact P4 _
theorem Ay.Level.known:Ay.Level.Kn:=Ay.Level.Ad (.cons Ac.Bp.known .nil) fun n a e f hp=>by
  obtain ⟨h1,h2⟩:=Af.1 hp
  obtain ⟨v,rfl,rfl,hv⟩:=S8 h1
  refine ⟨0,Ay.Level.out [.b (Ar v),.l (Ag v),.i e,.i f],[],?_,W9⟩
  show _=Aa9 (Gn (wv (Ar v) (Ag v)) (e-f))
  unfold Zw at h2
  rw [Fy] at h2
  obtain ⟨h3,h4⟩:=Af.1 h2
  have h3:=Ao.1 h3
  have h4:=Ao.1 h4
  rw [Ay.Level.ev,Fy,Us]
  by_cases h:v=0
  · rw [Aqx h,Aqw,h,Agx]; rfl
  · have o:Anq (Ab (e-f))=true:=by rw [An (by omega) (by omega)]; exact Ao.2 (by omega)
    rw [Aq1 h,Aq0,h1,o,Aq2,Aqw,An (by omega) (by omega)]
    rfl
theorem Ah6 (n k:Nat):C9 (n*2^k)≤C9 n+k:=by
  refine Jv ?_
  have h1:=Iv n
  have h2:n*2^k<2^(32*C9 n)*2^k:=(Nat.mul_lt_mul_right (Cd k)).2 h1
  rw [← Nat.pow_add] at h2
  exact Nat.lt_of_lt_of_le h2 (Arb (by decide) (by omega))
theorem Ah7 (v k:Int):C9 (Gn v k).natAbs≤C9 v.natAbs+k.toNat:=by
  unfold Gn
  by_cases h:0≤k
  · rw [if_pos h,Int.natAbs_mul,Int.natAbs_natCast]
    exact Ah6 _ _
  · rw [if_neg h,Jo]
    exact Nat.le_trans (J3 (Nat.div_le_self _ _)) (Nat.le_add_right _ _)
theorem Ah5 (v w:Int):C9 (v+w).natAbs≤max (C9 v.natAbs) (C9 w.natAbs)+1:=by
  refine Jv ?_
  have h1:=Iv v.natAbs
  have h2:=Iv w.natAbs
  have h3:2^(32*C9 v.natAbs)≤2^(32*max (C9 v.natAbs) (C9 w.natAbs)):=Arb (by decide) (by omega)
  have h4:2^(32*C9 w.natAbs)≤2^(32*max (C9 v.natAbs) (C9 w.natAbs)):=Arb (by decide) (by omega)
  rw [Jj]
  omega
theorem Ab7 {v e w f:Int} (he:-400000≤e∧e≤400000) (hf:-400000≤f∧f≤400000):-400000≤Cx v e w f∧Cx v e w f≤400000:=by
  unfold Cx
  split
  · exact hf
  · split
    · exact he
    · omega
theorem Ac9 {v e l:Int} (hv:C9 v.natAbs<134217728) (h:e-l≤800000):C9 (Gn v (e-l)).natAbs<140000000:=by
  have:=Ah7 v (e-l)
  omega
theorem Ay.Add.known:Ay.Add.Kn:=Ay.Add.Ad (.cons Ac.Add.known (.cons Ay.Level.known (.cons Ay.Tk.known (.cons Ay.Of.known .nil)))) fun n a e m b f hp=>by
  obtain ⟨h1,hf⟩:=Af.1 hp
  obtain ⟨h2,he⟩:=Af.1 h1
  obtain ⟨h3,h4⟩:=Af.1 h2
  obtain ⟨v,rfl,rfl,hv⟩:=S8 h3
  obtain ⟨w,rfl,rfl,hw⟩:=S8 h4
  have he:=Ao.1 he
  have hf:=Ao.1 hf
  refine ⟨0,Ay.Add.out [.b (Ar v),.l (Ag v),.i e,.b (Ar w),.l (Ag w),.i f],[],?_,wdy⟩
  show _=Ai1 (Aa3 (wv (Ar v) (Ag v)) e (wv (Ar w) (Ag w)) f) (Ajo (wv (Ar v) (Ag v)) e (wv (Ar w) (Ag w)) f)
  have hlo:=Ab7 (v:=v) (w:=w) he hf
  have l1:=Ac9 (l:=Cx v e w f) hv (show e-Cx v e w f≤800000 by omega)
  have l2:=Ac9 (l:=Cx v e w f) hw (show f-Cx v e w f≤800000 by omega)
  have l3:=Ah5 (Gn v (e-Cx v e w f)) (Gn w (f-Cx v e w f))
  have o1:Zw v e (Cx v e w f)=true:=Af.2 ⟨Ao.2 (by omega),Ao.2 (by omega)⟩
  have o2:Zw w f (Cx v e w f)=true:=Af.2 ⟨Ao.2 (by omega),Ao.2 (by omega)⟩
  have o3:Ro (Cx v e w f)=true:=Ao.2 (by omega)
  rw [Ay.Add.ev]
  simp only [Fy]
  rw [Jd (v:=v) (by omega),Jd (v:=w) (by omega),h3,h4,o1,o2,Jd (v:=Gn v (e-Cx v e w f)) (by omega),Jd (v:=Gn w (f-Cx v e w f)) (by omega),Jd (v:=Gn v (e-Cx v e w f)+Gn w (f-Cx v e w f)) (by omega),o3]
  simp only [Aq2,Aqw]
  rfl
theorem Ay.Du.known:Ay.Du.Kn:=Ay.Du.Ad (.cons Ac.Du.known .nil) fun n a e m b f hp=>by
  have hp:(Jr n a&&Jr m b)=true:=hp
  refine ⟨0,Ay.Du.out [.b n,.l a,.i e,.b m,.l b,.i f],[],?_,.bool⟩
  show _=some (DV.bool (decide (e=f)&&Ty (wv n a) (wv m b)))
  rw [Ay.Du.ev,hp,Bool.or_true,Aqw]
  by_cases h:e=f
  · have e0:(e==f)=true:=by simp [h]
    rw [e0,Aqx h]; rfl
  · have e0:(e==f)=false:=by simp [h]
    rw [e0,Aq1 h]; rfl
open EqRefC
namespace EqRefE
def Bb.Value.Ba:List (Nat × Entry):=[(143,Ac.Neg.spec),(115,Ac.Of.spec),(109,Ay.Of.spec),(141,Bb.Jc.spec),(142,Bb.Neg.spec),(140,Bb.Power.spec)]
def Bb.Value.E:Env:=Bc (A9 Bb.Value.Ba) (fun _=>false) (fun _=>none) (fun _=>none)
theorem Bb.Value.ev (N:Nat) (x:Int):By Bb.Value.E N Tryz.f63 (Am Tryz.f63) [.int .u64 x]=bif (Ph x) then bif (Adq (Ab (Ca x))) then bif (Ph x) then bif (A1 0 (Kb x)) then bif (Ph x) then bif (Adq (Ab (A3 ((Ca x)+4503599627370496)))) then bif (Ph x) then bif (Ai x) then bif (Dd x) then bif (Jr (Ar ((Ab (A3 ((Ca x)+4503599627370496))))) (Ag ((Ab (A3 ((Ca x)+4503599627370496)))))) then bif (Jr (Ar (- wv (Ar ((Ab (A3 ((Ca x)+4503599627370496))))) (Ag ((Ab (A3 ((Ca x)+4503599627370496))))))) (Ag (- wv (Ar ((Ab (A3 ((Ca x)+4503599627370496))))) (Ag ((Ab (A3 ((Ca x)+4503599627370496)))))))&&Ro (Ab ((Kb x)-1075))) then some (.agg [.bool (Ar (mD (wv (Ar (- wv (Ar ((Ab (A3 ((Ca x)+4503599627370496))))) (Ag ((Ab (A3 ((Ca x)+4503599627370496))))))) (Ag (- wv (Ar ((Ab (A3 ((Ca x)+4503599627370496))))) (Ag ((Ab (A3 ((Ca x)+4503599627370496)))))))))),.ints .arg .u32 (Ag (mD (wv (Ar (- wv (Ar ((Ab (A3 ((Ca x)+4503599627370496))))) (Ag ((Ab (A3 ((Ca x)+4503599627370496))))))) (Ag (- wv (Ar ((Ab (A3 ((Ca x)+4503599627370496))))) (Ag ((Ab (A3 ((Ca x)+4503599627370496)))))))))),.int .i64 (eD (wv (Ar (- wv (Ar ((Ab (A3 ((Ca x)+4503599627370496))))) (Ag ((Ab (A3 ((Ca x)+4503599627370496))))))) (Ag (- wv (Ar ((Ab (A3 ((Ca x)+4503599627370496))))) (Ag ((Ab (A3 ((Ca x)+4503599627370496)))))))) (Ab ((Kb x)-1075)))]) else none else none else bif (Jr (Ar ((Ab (A3 ((Ca x)+4503599627370496))))) (Ag ((Ab (A3 ((Ca x)+4503599627370496)))))&&Ro (Ab ((Kb x)-1075))) then some (.agg [.bool (Ar (mD (wv (Ar ((Ab (A3 ((Ca x)+4503599627370496))))) (Ag ((Ab (A3 ((Ca x)+4503599627370496)))))))),.ints .arg .u32 (Ag (mD (wv (Ar ((Ab (A3 ((Ca x)+4503599627370496))))) (Ag ((Ab (A3 ((Ca x)+4503599627370496)))))))),.int .i64 (eD (wv (Ar ((Ab (A3 ((Ca x)+4503599627370496))))) (Ag ((Ab (A3 ((Ca x)+4503599627370496)))))) (Ab ((Kb x)-1075)))]) else none else none else none else none else none else bif (Ai x) then bif (Dd x) then bif (Jr (Ar ((Ab (Ca x)))) (Ag ((Ab (Ca x))))) then bif (Jr (Ar (- wv (Ar ((Ab (Ca x)))) (Ag ((Ab (Ca x)))))) (Ag (- wv (Ar ((Ab (Ca x)))) (Ag ((Ab (Ca x))))))&&Ro (-1074:Int)) then some (.agg [.bool (Ar (mD (wv (Ar (- wv (Ar ((Ab (Ca x)))) (Ag ((Ab (Ca x)))))) (Ag (- wv (Ar ((Ab (Ca x)))) (Ag ((Ab (Ca x))))))))),.ints .arg .u32 (Ag (mD (wv (Ar (- wv (Ar ((Ab (Ca x)))) (Ag ((Ab (Ca x)))))) (Ag (- wv (Ar ((Ab (Ca x)))) (Ag ((Ab (Ca x))))))))),.int .i64 (eD (wv (Ar (- wv (Ar ((Ab (Ca x)))) (Ag ((Ab (Ca x)))))) (Ag (- wv (Ar ((Ab (Ca x)))) (Ag ((Ab (Ca x))))))) (-1074:Int))]) else none else none else bif (Jr (Ar ((Ab (Ca x)))) (Ag ((Ab (Ca x))))&&Ro (-1074:Int)) then some (.agg [.bool (Ar (mD (wv (Ar ((Ab (Ca x)))) (Ag ((Ab (Ca x))))))),.ints .arg .u32 (Ag (mD (wv (Ar ((Ab (Ca x)))) (Ag ((Ab (Ca x))))))),.int .i64 (eD (wv (Ar ((Ab (Ca x)))) (Ag ((Ab (Ca x))))) (-1074:Int))]) else none else none else none else none else none:=by kernel_rfl
abbrev _root_.Go.Proofs.S1.Bb.Value.Kn:=A7 Tryz.prog 63 Bb.Value.spec
theorem Bb.Value.Ad (hk:Ax Tryz.prog Bb.Value.Ba) (h:∀ (x:Int),Bb.Value.pre [.i x]=true→Bd Bb.Value.E Tryz.f63 [.int .u64 x] (Bb.Value.out [.i x])):Bb.Value.Kn :=
  Al (A0 hk _ _ _) Tryz.func63 (by kernel_rfl) (by kernel_rfl) h
end EqRefE
open EqRefE
theorem X7 {n k:Nat} (h:n<2^(32*k)) {m:Nat} (hk:k<m):C9 n<m:=Nat.lt_of_le_of_lt (Jv h) hk
theorem P5 (m:Nat):H9 false m=(m:Int):=rfl
theorem Zi (m:Nat):H9 true m=-(m:Int):=rfl
theorem Bb.Value.known:Bb.Value.Kn:=Bb.Value.Ad (.cons Ac.Neg.known (.cons Ac.Of.known (.cons Ay.Of.known (.cons Bb.Jc.known (.cons Bb.Neg.known (.cons Bb.Power.known .nil)))))) fun x hp=>by
  obtain ⟨n,rfl,hn⟩:=Bt (x:=x) hp
  refine ⟨0,Bb.Value.out [.i n],[],?_,wdy⟩
  show _=Ai1 (mD (A8 n)) (eD (A8 n) (Aw n))
  have hf:=Qx n
  have hw:=It n
  have small:∀ k:Nat,k<2^54→C9 k<268435456:=fun k hk=>X7 (k:=2) (Nat.lt_trans hk (by decide)) (by omega)
  have o1:∀ k:Nat,k<2^54→Jr (Ar (k:Int)) (Ag (k:Int))=true:=fun k hk=>Jd (by rw [Int.natAbs_natCast]; exact small k hk)
  have o2:∀ k:Nat,k<2^54→Jr (Ar (-(k:Int))) (Ag (-(k:Int)))=true:=fun k hk=>Jd (by rw [Int.natAbs_neg,Int.natAbs_natCast]; exact small k hk)
  rw [Bb.Value.ev]
  unfold Ca Kb Dd A8 Aw
  simp only [Fy,Aqy]
  have e1:Ab ((Fc n:Nat):Int)=((Fc n:Nat):Int):=An (by omega) (by omega)
  have e2:Ab (A3 (((Fc n:Nat):Int)+4503599627370496))=((Fc n+2^52:Nat):Int):=by
    rw [Cg (by omega) (by omega),An (by omega) (by omega)]; omega
  have i1:∀ k:Nat,k<2^54→Adq (k:Int)=true:=fun k hk=>Ao.2 (by omega)
  rw [Ud,B0 hn,e1,e2,i1 _ (by omega),i1 _ (by omega),Aq,An (by omega) (by omega)]
  simp only [Aqw]
  unfold Av Be
  by_cases h:Gv n=0
  · have o3:Ro (-1074)=true:=Ao.2 (by omega)
    rw [if_pos h,if_pos h,Aq1 (by omega),Aq0,o1 _ (by omega),o2 _ (by omega),o3]
    cases D3 n
    · rw [Aq0,P5]; rfl
    · rw [Aqw,Zi]; rfl
  · have o3:Ro ((Gv n:Int)-1075)=true:=Ao.2 (by omega)
    rw [if_neg h,if_neg h,Aqx (by omega),Aqw,o1 _ (by omega),o2 _ (by omega),o3]
    cases D3 n
    · rw [Aq0,P5]; rfl
    · rw [Aqw,Zi]; rfl
theorem Tm {m t:Nat} (h:m<2^t) (h0:m≠0):Q7 m<t:=Nat.lt_of_le_of_lt (Amd h0) ((Nat.log2_lt h0).2 h)
theorem Xa (b:Nat):(A8 (b:Int)).natAbs=Av b:=by
  unfold A8 H9
  rw [Aqy]
  split<;>omega
theorem Ams (b:Nat):C9 (A8 (b:Int)).natAbs<3∧-400000≤eD (A8 (b:Int)) (Be b)∧eD (A8 (b:Int)) (Be b)≤400000:=by
  have hm:=Ei b
  have he:=Ea b
  have ha:=Xa b
  refine ⟨X7 (k:=2) (by rw [ha]; exact Nat.lt_trans hm (by decide)) (by omega),?_⟩
  unfold eD
  by_cases h:A8 (b:Int)=0
  · rw [if_pos h]; omega
  · rw [if_neg h]
    have:=Tm (m:=(A8 (b:Int)).natAbs) (t:=53) (by rw [ha]; exact hm) (by omega)
    omega
theorem X2 {r:Nat} (h:r<2^63):Db r=((2^63+r:Nat):Int):=by
  unfold Db; rw [Aqy,Uh h]
theorem Kt {r:Nat} (h:r<2^63) (n:Bool):(bif n then (bif (Ai (r:Int)) then some (DV.int .u64 (Db r)) else none) else some (DV.int .u64 r))=some (DV.int .u64 ((Co n r:Nat):Int)):=by
  cases n
  · rfl
  · rw [B0 (by omega),X2 h]; rfl
theorem Ll (n:Bool) (m:Nat) (e:Int):Qg n m e=((Co n (Ch m e):Nat):Int):=by
  unfold Qg; rw [Aqy]
theorem Abv {E M:Nat} (h1:1≤E) (h2:E≤2046) (h3:4503599627370496≤M) (h4:M<9007199254740992):E*2^52+M%2^52=min ((E-1)*2^52+M) G5:=by
  obtain ⟨k,rfl⟩:∃ k,E=k+1:=⟨E-1,by omega⟩
  obtain ⟨r,rfl⟩:∃ r,M=2^52+r:=⟨M-2^52,by omega⟩
  have hr:r<2^52:=by omega
  have hm:(2^52+r)%2^52=r:=by rw [Nat.add_mod_left,Aq9 hr]
  have hk:k*2^52≤2045*2^52:=Aq8 _ (by omega)
  have hi:G5=2045*2^52+2^52+2^52:=by unfold G5; rfl
  rw [hm,Nat.add_sub_cancel,Nat.succ_mul,hi]
  generalize 2^52=c at *
  omega
theorem soft.Pack.known:soft.Pack.Kn:=EqSoft.soft.Pack.Ad (.cons soft.Fe.known .nil) fun rk n m e hp hr=>by
  have hp:=Ao.1 (show Iu m e=true from hp)
  have hr:L7 m e<rk+1:=hr
  obtain ⟨m0,m1,e0,e1⟩:=hp
  obtain ⟨M,rfl⟩:∃ M:Nat,m=M:=⟨m.toNat,by omega⟩
  refine ⟨0,soft.Pack.out [.b n,.i M,.i e],[],?_,.int⟩
  rw [EqSoft.soft.Pack.ev]
  show _=some (DV.int .u64 (Qg n M e))
  rw [Ll]
  unfold L7 at hr
  by_cases h0:M=0
  · subst h0
    have:=Kt (r:=0) (by decide) n
    have e0:Ch 0 e=0:=rfl
    rw [e0]
    simpa using this
  · have b0:((M:Int)==0)=false:=by simp; omega
    rw [b0,Aq0]
    by_cases h1:M=9007199254740992
    · have b1:Iw (9007199254740992:Int) (M:Int)=true:=by rw [Er]; simp; omega
      have s1:Ct .u64 (M:Int) (1:Int)=((2^52:Nat):Int):=by
        rw [show (1:Int)=((1:Nat):Int) from rfl,F8 .u64 M 1 (by decide),h1]
      have w1:Ab (e+1)=e+1:=An (by omega) (by omega)
      rw [if_pos (by omega)] at hr
      have p1:Iu ((2^52:Nat):Int) (e+1)=true:=Ao.2 (by omega)
      have p2:Cn (L7 ((2^52:Nat):Int) (e+1)<rk)=true:=Ao.2 (by
        unfold L7
        rw [if_neg (by omega),if_neg (by omega)]; omega)
      rw [b1,s1,w1,p1,p2,Ll,h1]
      have:=(Eg (2^52) 1 (e+1)).1
      have e2:e+1-((1:Nat):Int)=e:=by omega
      rw [e2] at this
      rw [← this]; rfl
    · have b1:Iw (9007199254740992:Int) (M:Int)=false:=by rw [Er]; simp; omega
      rw [b1,Aq0]
      rw [if_neg (by omega)] at hr
      by_cases h2:M<4503599627370496
      · have b2:A1 (M:Int) (4503599627370496:Int)=true:=by rw [Aq]; simp; omega
        rw [if_pos (by omega)] at hr
        by_cases h3:e=-1074
        · subst h3
          have b3:A1 (-1074:Int) (-1074)=false:=by decide
          rw [b2,b3,Bool.true_and,Aq0,Aqw,Zk h2]
          exact Kt (by omega) n
        · have b3:A1 (-1074:Int) e=true:=by rw [Aq]; simp; omega
          have s1:Bm .u64 (M:Int) (1:Int)=((M*2^1:Nat):Int):=by
            rw [show (1:Int)=((1:Nat):Int) from rfl,Ek M 1 (by decide),Aq9 (by omega)]
          have w1:Ab (e-1)=e-1:=An (by omega) (by omega)
          have p1:Iu ((M*2^1:Nat):Int) (e-1)=true:=Ao.2 (by omega)
          have p2:Cn (L7 ((M*2^1:Nat):Int) (e-1)<rk)=true:=Ao.2 (by
            unfold L7
            rw [if_neg (by omega)]
            split<;>omega)
          rw [b2,b3,s1,w1,p1,p2,Ll]
          have:=(Eg M 1 e).1
          have e2:e-((1:Nat):Int)=e-1:=by omega
          rw [e2] at this
          rw [this]; rfl
      · have b2:A1 (M:Int) (4503599627370496:Int)=false:=by rw [Aq]; simp; omega
        have w1:Ab (e+1075)=e+1075:=An (by omega) (by omega)
        rw [b2,w1,Bool.false_and,Aq0,Aq0]
        have hr:=Rh (m:=M) (e:=e) (by omega) (by omega) e0
        by_cases h4:2047≤e+1075
        · have b4:Iw (2047:Int) (e+1075)=true:=by rw [Er]; simp; omega
          have:Ch M e=9218868437227405312:=by rw [hr,Qt]; omega
          rw [b4,this,Aqw]
          exact Kt (r:=9218868437227405312) (by decide) n
        · have b4:Iw (2047:Int) (e+1075)=false:=by rw [Er]; simp; omega
          obtain ⟨E,hE⟩:∃ E:Nat,e+1075=E:=⟨(e+1075).toNat,by omega⟩
          have s1:G6 .u64 (Bm .u64 (A3 (e+1075)) (52:Int)) (E8 .u64 (M:Int) (4503599627370495:Int))=((Ch M e:Nat):Int):=by
            rw [hE,Cg (by omega) (by omega),show (52:Int)=((52:Nat):Int) from rfl,Ek E 52 (by decide),Aq9 (by omega),
              show (4503599627370495:Int)=((2^52-1:Nat):Int) from rfl,Gx 52 (by omega) (by decide),Kj (by omega) (by omega)]
            have hE2:(e+1074).toNat=E-1:=by omega
            have hE3:1≤E∧E≤2046:=by omega
            have hM:4503599627370496≤M∧M<9007199254740992:=by omega
            rw [hr,hE2]
            exact congrArg (fun (x:Nat)=>(x:Int)) (Abv hE3.1 hE3.2 hM.1 hM.2)
          rw [b4,s1,Aq0]
          exact Kt (S4 M e) n
open EqSoft
theorem Agj {D:Nat} (h:D≤63):2^D<2^64:=Nat.pow_lt_pow_right (by decide) (by omega)
theorem Mp (n:Bool) {r:Nat} (h:r<2^63):Mm .u64 ((Co n r:Nat):Int) (9223372036854775808:Int)=(r:Int):=by
  have hs:Co n r<2^64:=by unfold Co; split<;>omega
  unfold Mm
  rw [show (9223372036854775808:Int)=((2^63:Nat):Int) from rfl,BitVec.toNat_and,BitVec.toNat_not,Hl,Hl,show IntKind.u64.bits=64 from rfl,Aq9 hs,
    show 2^64-1-2^63%2^64=2^63-1 by decide,Nat.and_two_pow_sub_one_eq_mod]
  have:Co n r%2^63=r:=by unfold Co; cases n<;>simp<;>omega
  rw [this]
  exact Sz (by omega)
theorem Ab1 (N:Nat) (ex n:Bool) {r:Nat} (h:r≤G5):soft.Cq.C18 N ex ((Co n r:Nat):Int)=some (.tup [.int .u64 ((Co n r:Nat):Int),.int .u8 ((flags r ex:Nat):Int)]):=by
  have h63:r<2^63:=by rw [Qt] at h; omega
  have hs:Co n r<2^64:=by unfold Co; split<;>omega
  rw [soft.Cq.Aoj,Mp n h63,B0 hs]
  unfold A4 flags
  rw [Aqy,Afd n h]
  have hinf:(((r:Nat):Int)==(9218868437227405312:Int))=decide (r=G5):=by
    rw [Qt,Arc]; simp; omega
  rw [hinf]
  by_cases h1:r=G5
  · simp [h1]
  · by_cases h2:2^52≤r
    · cases ex<;>simp [h1]<;>simp [show 4503599627370496≤r by omega]
    · by_cases h3:0<r
      · cases ex<;>simp [h1,h3]<;>simp [show ¬ 4503599627370496≤r by omega]
      · cases ex<;>simp [h1,h3]<;>simp [show ¬ 4503599627370496≤r by omega]
theorem Aez (N:Nat) (n:Bool) {m:Nat} {e:Int} (he:-1140≤e∧e≤50000) (r:Bool):∀ (k d F:Nat),d+k=62→k<F→(∀ d',d'<d→2^53≤m / 2^d'∨e+d' < -1074) →
    ∃ D:Nat,soft.Cq.L0 N F n m e r (d:Int)=soft.Cq.C7 N n m e r (D:Int)∧Drop m e D:=by
  intro k
  induction k with
  | zero =>
    intro d F hd hF hl
    obtain ⟨F,rfl⟩:∃ G,F=G+1:=⟨F-1,by omega⟩
    obtain rfl:d=62:=by omega
    rw [soft.Cq.At,F8 .u64 m 62 (by decide),An (by omega) (by omega),An (by omega) (by omega),Er,Aq]
    have a0:decide ((0:Int)≤((62:Nat):Int))=true:=by decide
    have a1:((((62:Nat):Int)+1)==63)=true:=by decide
    rw [a0,Aqw,a1,Aqw]
    by_cases h:2^53≤m / 2^62∨e+(62:Nat) < -1074
    · refine ⟨63,?_,by omega,by omega,fun d' hd'=>?_⟩
      · have:(decide ((9007199254740992:Int)≤((m / 2^62:Nat):Int))||decide (e+((62:Nat):Int) < -1074))=true:=by
          simp only [Bool.or_eq_true,Aq3]; omega
        rw [this]; rfl
      · rcases Nat.lt_or_ge d' 62 with h' | h'
        · exact hl d' h'
        · obtain rfl:d'=62:=by omega
          exact h
    · refine ⟨62,?_,by omega,fun _=>by omega,hl⟩
      have:(decide ((9007199254740992:Int)≤((m / 2^62:Nat):Int))||decide (e+((62:Nat):Int) < -1074))=false:=by
        simp only [Bool.or_eq_false_iff,Arf]; omega
      rw [this]; rfl
  | succ k ih =>
    intro d F hd hF hl
    obtain ⟨F,rfl⟩:∃ G,F=G+1:=⟨F-1,by omega⟩
    rw [soft.Cq.At,F8 .u64 m d (by show d≤64; omega),An (by omega) (by omega),An (by omega) (by omega),Er,Aq]
    have a0:decide ((0:Int)≤(d:Int))=true:=by simp
    have a1:(((d:Int)+1)==63)=false:=by simp; omega
    rw [a0,Aqw,a1,Aq0]
    by_cases h:2^53≤m / 2^d∨e+d < -1074
    · have:(decide ((9007199254740992:Int)≤((m / 2^d:Nat):Int))||decide (e+(d:Int) < -1074))=true:=by
        simp only [Bool.or_eq_true,Aq3]; omega
      rw [this,Aqw,show (d:Int)+1=((d+1:Nat):Int) by omega]
      refine ih (d+1) F (by omega) (by omega) fun d' hd'=>?_
      rcases Nat.lt_or_ge d' d with h' | h'
      · exact hl d' h'
      · obtain rfl:d'=d:=by omega
        exact h
    · refine ⟨d,?_,by omega,fun _=>by omega,hl⟩
      have:(decide ((9007199254740992:Int)≤((m / 2^d:Nat):Int))||decide (e+(d:Int) < -1074))=false:=by
        simp only [Bool.or_eq_false_iff,Arf]; omega
      rw [this]; rfl
theorem Aey (N:Nat) (n:Bool) {m D:Nat} (hm:m<2^64) {e:Int} (he:-1140≤e∧e≤50000) (r:Bool) (hD:D≤63) (hq:(if e+D < -1074 then 0 else Zs m D r.toNat)≤2^53) :
    soft.Cq.C7 N n m e r (D:Int)=soft.Cq.C18 N (decide (m%2^D=0∧r.toNat=0)) ((Co n (Ch (if e+D < -1074 then 0 else Zs m D r.toNat) (max (e+D) (-1074))):Nat):Int):=by
  have hA:=Cd D
  have h2D:=Agj hD
  have hr:=Nat.mod_lt m hA
  have hqm:m / 2^D≤m:=Nat.div_le_self _ _
  rw [soft.Cq.Ajs]
  have a0:decide ((0:Int)≤(D:Int))=true:=by simp
  have e1:Ct .u64 (m:Int) (D:Int)=((m / 2^D:Nat):Int):=F8 .u64 m D (by show D≤64; omega)
  have e2:Bm .u64 (1:Int) (D:Int)=((2^D:Nat):Int):=by
    rw [show (1:Int)=((1:Nat):Int) from rfl,Ek 1 D (by omega),Nat.one_mul,Aq9 h2D]
  have e3:E8 .u64 (m:Int) (A3 (Bm .u64 (1:Int) (D:Int)-(1:Int)))=((m%2^D:Nat):Int):=by
    rw [e2,Cg (by omega) (by omega),show ((2^D:Nat):Int)-1=((2^D-1:Nat):Int) by omega,Gx D hm (by omega)]
  have e5:(bif (((m%2^D:Nat):Int)==(0:Int)) then (!r) else false)=decide (m%2^D=0∧r.toNat=0):=by
    by_cases h:m%2^D=0
    · cases r<;>simp [h]
    · have:(((m%2^D:Nat):Int)==(0:Int))=false:=by simp only [beq_eq_false_iff_ne,ne_eq]; omega
      rw [this]; simp [h]
  rw [a0,Aqw,Aqw,e1,e3,e5,Aq]
  have last:∀ (p:Bool) (q:Nat),q≤2^64-1→(if e+D < -1074 then 0 else q)≤2^53→soft.Cq.C14 N n e (D:Int) ((q:Nat):Int) p=soft.Cq.C18 N p ((Co n (Ch (if e+D < -1074 then 0 else q) (max (e+D) (-1074))):Nat):Int):=by
    intro p q hq hq2
    rw [soft.Cq.Vi,An (by omega) (by omega),Aq]
    have c16:∀ q':Nat,q'≤2^53→soft.Cq.C16 N n e (q':Int) (D:Int) p=soft.Cq.C18 N p ((Co n (Ch q' (max (e+D) (-1074))):Nat):Int):=by
      intro q' hq'
      rw [soft.Cq.Aol,An (by omega) (by omega)]
      have:Iu (q':Int) (max (e+(D:Int)) (-1074))=true:=Ao.2 (by omega)
      rw [this,Ll]; rfl
    by_cases h:e+D < -1074
    · rw [if_pos h] at hq2 ⊢
      have:decide (e+(D:Int) < -1074)=true:=by simpa using h
      rw [this]
      exact c16 0 hq2
    · rw [if_neg h] at hq2 ⊢
      have:decide (e+(D:Int) < -1074)=false:=by simpa using h
      rw [this]
      exact c16 q hq2
  have up:∀ (half:Nat) (hh:0<D→half=2^(D-1)) (p:Bool),soft.Cq.C12 N n e r (D:Int) ((m / 2^D:Nat):Int) ((m%2^D:Nat):Int) (half:Int) p=soft.Cq.C18 N p ((Co n (Ch (if e+D < -1074 then 0 else Zs m D r.toNat) (max (e+D) (-1074))):Nat):Int):=by
    intro half hh p
    rw [soft.Cq.Vj,Aq,Aq]
    have odd:(E8 .u64 ((m / 2^D:Nat):Int) (1:Int)==(1:Int))=decide (m / 2^D%2=1):=by
      rw [show (1:Int)=((2^1-1:Nat):Int) from rfl,Gx 1 (by omega) (by decide),Arc]
      simp only [beq_iff_eq,Aq3]
      omega
    rw [odd]
    have test:(decide ((0:Int)<(D:Int))&&(decide ((half:Int)<((m%2^D:Nat):Int))||((((m%2^D:Nat):Int)==(half:Int))&&(r||decide (m / 2^D%2=1))))) =
        decide (0<D∧(2^(D-1)<m%2^D∨(m%2^D=2^(D-1)∧(r.toNat=1∨m / 2^D%2=1)))):=by
      rw [Arc]
      generalize m%2^D=rr
      generalize m / 2^D=qq
      generalize hg:2^(D-1)=gg at hh
      by_cases h0:0<D
      · have:=hh h0
        subst this
        cases r<;>simp [h0]<;>omega
      · simp [h0]
    rw [test]
    by_cases ht:0<D∧(2^(D-1)<m%2^D∨(m%2^D=2^(D-1)∧(r.toNat=1∨m / 2^D%2=1)))
    · have hq1:Zs m D r.toNat=m / 2^D+1:=by unfold Zs; rw [if_pos ht]
      have hlt:m / 2^D+1<2^64:=by
        obtain ⟨d,rfl⟩:∃ d,D=d+1:=⟨D-1,by omega⟩
        have h1:m / 2^(d+1)≤m / 2:=Nat.div_le_div_left (by rw [Nat.pow_succ]; have:=Cd d; omega) (by decide)
        omega
      rw [hq1] at hq ⊢
      rw [Aqx ht,Aqw,Cg (by omega) (by omega),show ((m / 2^D:Nat):Int)+1=((m / 2^D+1:Nat):Int) by omega]
      exact last p _ (by omega) hq
    · have hq1:Zs m D r.toNat=m / 2^D:=by unfold Zs; rw [if_neg ht]; rfl
      rw [hq1] at hq ⊢
      rw [Aq1 ht,Aq0]
      exact last p _ (by omega) hq
  rcases Nat.eq_zero_or_pos D with rfl | hpos
  · have:decide ((0:Int)<((0:Nat):Int))=false:=by decide
    rw [this,Aq0]
    exact up 0 (fun h=>absurd h (by omega)) _
  · have h1:decide ((0:Int)<(D:Int))=true:=by simpa using hpos
    have h2:Ab ((D:Int)-1)=((D-1:Nat):Int):=by rw [An (by omega) (by omega)]; omega
    have h3:decide ((0:Int)≤((D-1:Nat):Int))=true:=by simp
    have h4:Bm .u64 (1:Int) ((D-1:Nat):Int)=((2^(D-1):Nat):Int):=by
      rw [show (1:Int)=((1:Nat):Int) from rfl,Ek 1 (D-1) (by omega),Nat.one_mul,Aq9 (Agj (by omega))]
    rw [h1,Aqw,h2,h3,Aqw,h4]
    exact up _ (fun _=>rfl) _
theorem soft.Cq.known:soft.Cq.Kn:=soft.Cq.Ad (.cons soft.Kind.known (.cons soft.Pack.known .nil)) fun n m e r hp=>by
  obtain ⟨m0,m1,e1,e2,hr⟩:=Ao.1 (show Di m e r=true from hp)
  obtain ⟨M,rfl⟩:∃ M:Nat,m=M:=⟨m.toNat,by omega⟩
  refine ⟨63,soft.Cq.out [.b n,.i M,.i e,.b r],[],?_,Wk.Gb (.cons .int (.cons .int .nil))⟩
  show _=some (DV.tup [.int .u64 (Dz n M e r),.int .u8 (Dy n M e r)])
  unfold Dz Dy Fb
  rw [Aqy,soft.Cq.ev]
  dsimp only
  by_cases h0:M=0∧r=false
  · obtain ⟨rfl,rfl⟩:=h0
    have:Iu (0:Int) (-1074)=true:=Ao.2 (by omega)
    have hp0:=Ll n 0 (-1074)
    rw [this]
    simp only [Bool.not_false,Bool.and_true,Aqw,Bool.toNat_false]
    have hz:(((0:Nat):Int)==0)=true:=rfl
    rw [hz,Aqw]
    have hp0:Qg n (0:Int) (-1074)=((Co n (Ch 0 (-1074)):Nat):Int):=hp0
    have z:∀ E,Ch 0 E=0:=fun E=>if_pos rfl
    have z3:∀ E,flagsOf 0 E=0:=fun E=>if_pos rfl
    rw [hp0,z,show 4*0+0=0 from rfl,z,z3]
    rfl
  · have hc:((((M:Nat):Int)==(0:Int))&&!r)=false:=by
      cases r
      · have:M≠0:=fun h=>h0 ⟨h,rfl⟩
        simp; omega
      · simp
    rw [hc,Aq0]
    have he:-1140≤e∧e≤50000:=by omega
    obtain ⟨D,hl,hD⟩:=Aez 63 n (m:=M) he r 62 0 63 (by omega) (by omega) (fun d' h=>by omega)
    have hs:r.toNat≤1:=by cases r<;>decide
    have hV:4*M+r.toNat≠0:=by
      intro h
      refine h0 ⟨by omega,?_⟩
      cases r
      · rfl
      · simp at h
    obtain ⟨t1,t2,t3⟩:=Ae1 hD hs hV (by omega) (by omega) (fun h=>by
      have:r=true:=by cases r<;>simp_all
      have:=hr this
      omega)
    have hl:soft.Cq.L0 63 63 n (M:Int) e r (0:Int)=soft.Cq.C7 63 n (M:Int) e r (D:Int):=hl
    rw [hl,Aey 63 n (by omega) he r hD.le t3,← t1,Ab1 63 _ n (Adb _ _),t2]
namespace EqSum
def sum.right.Ba:List (Nat × Entry):=[]
def sum.right.E:Env:=Bc (A9 sum.right.Ba) (fun _=>false) (fun _=>none) (fun _=>none)
theorem sum.right.ev (N:Nat) (m d:Int):By sum.right.E N Tryz.f249 (Am Tryz.f249) [.int .u64 m,.int .i64 d]=bif (A1 63 d) then bif ((Bm .u64 (Ct .u64 m 63) 63) !=m) then some (.int .u64 (G6 .u64 (Ct .u64 m 63) 1)) else some (.int .u64 (Ct .u64 m 63)) else bif (decide (0≤d)) then bif (decide (0≤d)) then bif ((Bm .u64 (Ct .u64 m d) d) !=m) then some (.int .u64 (G6 .u64 (Ct .u64 m d) 1)) else some (.int .u64 (Ct .u64 m d)) else none else none:=by kernel_rfl
abbrev _root_.Go.Proofs.S1.sum.right.Kn:=A7 Tryz.prog 249 sum.right.spec
theorem sum.right.Ad (hk:Ax Tryz.prog sum.right.Ba) (h:∀ (m d:Int),sum.right.pre [.i m,.i d]=true→Bd sum.right.E Tryz.f249 [.int .u64 m,.int .i64 d] (sum.right.out [.i m,.i d])):sum.right.Kn :=
  Al (A0 hk _ _ _) Tryz.func249 (by kernel_rfl) (by kernel_rfl) h
def sum.Dr.Ba:List (Nat × Entry):=[(148,soft.Finite.spec),(155,soft.Kind.spec)]
def sum.Dr.E:Env:=Bc (A9 sum.Dr.Ba) (fun _=>false) (fun _=>none) (fun _=>none)
theorem sum.Dr.ev (N:Nat) (a b:Int):By sum.Dr.E N Tryz.f248 (Am Tryz.f248) [.int .u64 a,.int .u64 b]=bif (Ai a) then bif ((A4 a)==(4:Int)) then some (.tup [.int .u64 9221120237041090560,.int .u8 0]) else bif (Ai b) then bif ((A4 b)==(4:Int)) then some (.tup [.int .u64 9221120237041090560,.int .u8 0]) else bif (Ai a) then bif (Df a) then some (.tup [.int .u64 b,.int .u8 0]) else bif (Ai b) then bif ((Df b)||(a==b)) then some (.tup [.int .u64 a,.int .u8 0]) else some (.tup [.int .u64 9221120237041090560,.int .u8 16]) else none else none else none else none :=
  Eq.trans (by kernel_rfl)
  (E3 (E3 rfl (E3 (E3 rfl (E3 (E3 rfl (E3 (Au (Vk (Df b)) (Au (Vk (Df b)) (Au (tt8 (Df b)) (Au (tt6 (Df b)) (C0 (tt5 (Df b) (a==b)) rfl rfl))))) rfl)) rfl)) rfl)) rfl)
abbrev _root_.Go.Proofs.S1.sum.Dr.Kn:=A7 Tryz.prog 248 sum.Dr.spec
theorem sum.Dr.Ad (hk:Ax Tryz.prog sum.Dr.Ba) (h:∀ (a b:Int),sum.Dr.pre [.i a,.i b]=true→Bd sum.Dr.E Tryz.f248 [.int .u64 a,.int .u64 b] (sum.Dr.out [.i a,.i b])):sum.Dr.Kn :=
  Al (A0 hk _ _ _) Tryz.func248 (by kernel_rfl) (by kernel_rfl) h
def sum.Add.Ba:List (Nat × Entry):=[(148,soft.Finite.spec),(212,soft.Cq.spec),(211,soft.E2.spec),(213,soft.Sign.spec),(249,sum.right.spec),(248,sum.Dr.spec)]
def sum.Add.E:Env:=Bc (A9 sum.Add.Ba) (fun _=>false) (fun _=>none) (fun _=>none)
theorem sum.Add.ev (N:Nat) (a b:Int):By sum.Add.E N Tryz.f232 (Am Tryz.f232) [.int .u64 a,.int .u64 b]=bif (Ai a) then bif ((!(Df a))||(Ai b)) then bif ((!(Df a))||(!(Df b))) then bif ((Ai a&&Ai b)&&(!(Df a)||!(Df b))) then some (.tup [.int .u64 (Jm a b),.int .u8 (Su a b)]) else none else bif (Ai a) then bif (Ai b) then bif (Ai a) then bif (Ai b) then bif (A1 (Aw a) (Aw b)) then bif (Ai (Bm .u64 (Bf a) 9)&&Cn (0≤(Ab ((Aw b)-(Aw a)))∧(Ab ((Aw b)-(Aw a)))<1000000)) then bif ((Dd b)==(Dd a)) then bif (Di (A3 ((Bm .u64 (Bf b) 9)+(D6 (Bm .u64 (Bf a) 9) (Ab ((Aw b)-(Aw a)))))) (Ab ((Aw b)-9)) false) then some (.tup [.int .u64 (Dz (Dd b) (A3 ((Bm .u64 (Bf b) 9)+(D6 (Bm .u64 (Bf a) 9) (Ab ((Aw b)-(Aw a)))))) (Ab ((Aw b)-9)) false),.int .u8 (Dy (Dd b) (A3 ((Bm .u64 (Bf b) 9)+(D6 (Bm .u64 (Bf a) 9) (Ab ((Aw b)-(Aw a)))))) (Ab ((Aw b)-9)) false)]) else none else bif (A1 (D6 (Bm .u64 (Bf a) 9) (Ab ((Aw b)-(Aw a)))) (Bm .u64 (Bf b) 9)) then bif (Di (A3 ((Bm .u64 (Bf b) 9)-(D6 (Bm .u64 (Bf a) 9) (Ab ((Aw b)-(Aw a)))))) (Ab ((Aw b)-9)) false) then some (.tup [.int .u64 (Dz (Dd b) (A3 ((Bm .u64 (Bf b) 9)-(D6 (Bm .u64 (Bf a) 9) (Ab ((Aw b)-(Aw a)))))) (Ab ((Aw b)-9)) false),.int .u8 (Dy (Dd b) (A3 ((Bm .u64 (Bf b) 9)-(D6 (Bm .u64 (Bf a) 9) (Ab ((Aw b)-(Aw a)))))) (Ab ((Aw b)-9)) false)]) else none else bif (A1 (Bm .u64 (Bf b) 9) (D6 (Bm .u64 (Bf a) 9) (Ab ((Aw b)-(Aw a))))) then bif (Di (A3 ((D6 (Bm .u64 (Bf a) 9) (Ab ((Aw b)-(Aw a))))-(Bm .u64 (Bf b) 9))) (Ab ((Aw b)-9)) false) then some (.tup [.int .u64 (Dz (Dd a) (A3 ((D6 (Bm .u64 (Bf a) 9) (Ab ((Aw b)-(Aw a))))-(Bm .u64 (Bf b) 9))) (Ab ((Aw b)-9)) false),.int .u8 (Dy (Dd a) (A3 ((D6 (Bm .u64 (Bf a) 9) (Ab ((Aw b)-(Aw a))))-(Bm .u64 (Bf b) 9))) (Ab ((Aw b)-9)) false)]) else none else some (.tup [.int .u64 0,.int .u8 0]) else none else bif (Ai (Bm .u64 (Bf b) 9)&&Cn (0≤(Ab ((Aw a)-(Aw b)))∧(Ab ((Aw a)-(Aw b)))<1000000)) then bif ((Dd a)==(Dd b)) then bif (Di (A3 ((Bm .u64 (Bf a) 9)+(D6 (Bm .u64 (Bf b) 9) (Ab ((Aw a)-(Aw b)))))) (Ab ((Aw a)-9)) false) then some (.tup [.int .u64 (Dz (Dd a) (A3 ((Bm .u64 (Bf a) 9)+(D6 (Bm .u64 (Bf b) 9) (Ab ((Aw a)-(Aw b)))))) (Ab ((Aw a)-9)) false),.int .u8 (Dy (Dd a) (A3 ((Bm .u64 (Bf a) 9)+(D6 (Bm .u64 (Bf b) 9) (Ab ((Aw a)-(Aw b)))))) (Ab ((Aw a)-9)) false)]) else none else bif (A1 (D6 (Bm .u64 (Bf b) 9) (Ab ((Aw a)-(Aw b)))) (Bm .u64 (Bf a) 9)) then bif (Di (A3 ((Bm .u64 (Bf a) 9)-(D6 (Bm .u64 (Bf b) 9) (Ab ((Aw a)-(Aw b)))))) (Ab ((Aw a)-9)) false) then some (.tup [.int .u64 (Dz (Dd a) (A3 ((Bm .u64 (Bf a) 9)-(D6 (Bm .u64 (Bf b) 9) (Ab ((Aw a)-(Aw b)))))) (Ab ((Aw a)-9)) false),.int .u8 (Dy (Dd a) (A3 ((Bm .u64 (Bf a) 9)-(D6 (Bm .u64 (Bf b) 9) (Ab ((Aw a)-(Aw b)))))) (Ab ((Aw a)-9)) false)]) else none else bif (A1 (Bm .u64 (Bf a) 9) (D6 (Bm .u64 (Bf b) 9) (Ab ((Aw a)-(Aw b))))) then bif (Di (A3 ((D6 (Bm .u64 (Bf b) 9) (Ab ((Aw a)-(Aw b))))-(Bm .u64 (Bf a) 9))) (Ab ((Aw a)-9)) false) then some (.tup [.int .u64 (Dz (Dd b) (A3 ((D6 (Bm .u64 (Bf b) 9) (Ab ((Aw a)-(Aw b))))-(Bm .u64 (Bf a) 9))) (Ab ((Aw a)-9)) false),.int .u8 (Dy (Dd b) (A3 ((D6 (Bm .u64 (Bf b) 9) (Ab ((Aw a)-(Aw b))))-(Bm .u64 (Bf a) 9))) (Ab ((Aw a)-9)) false)]) else none else some (.tup [.int .u64 0,.int .u8 0]) else none else none else none else none else none else none else none :=
  Eq.trans (by kernel_rfl)
  (E3 (Au (Ad6 (Df a)) (C0 (Am6 (Df a) (Ai b)) (Au (Tq (Df a)) (Au (Ad7 (Df a)) (C0 (Am7 (Df a) (Df b)) rfl rfl))) rfl)) rfl)
abbrev _root_.Go.Proofs.S1.sum.Add.Kn:=A7 Tryz.prog 232 sum.Add.spec
theorem sum.Add.Ad (hk:Ax Tryz.prog sum.Add.Ba) (h:∀ (a b:Int),sum.Add.pre [.i a,.i b]=true→Bd sum.Add.E Tryz.f232 [.int .u64 a,.int .u64 b] (sum.Add.out [.i a,.i b])):sum.Add.Kn :=
  Al (A0 hk _ _ _) Tryz.func232 (by kernel_rfl) (by kernel_rfl) h
def sum.Sub.Ba:List (Nat × Entry):=[(233,soft.Fe.spec),(232,sum.Add.spec)]
def sum.Sub.E:Env:=Bc (A9 sum.Sub.Ba) (fun _=>false) (fun _=>none) (fun _=>none)
theorem sum.Sub.ev (N:Nat) (a b:Int):By sum.Sub.E N Tryz.f207 (Am Tryz.f207) [.int .u64 a,.int .u64 b]=bif (Ai b) then bif (Ai a&&Ai (Db b)) then some (.tup [.int .u64 (Jm a (Db b)),.int .u8 (Su a (Db b))]) else none else none:=by kernel_rfl
abbrev _root_.Go.Proofs.S1.sum.Sub.Kn:=A7 Tryz.prog 207 sum.Sub.spec
theorem sum.Sub.Ad (hk:Ax Tryz.prog sum.Sub.Ba) (h:∀ (a b:Int),sum.Sub.pre [.i a,.i b]=true→Bd sum.Sub.E Tryz.f207 [.int .u64 a,.int .u64 b] (sum.Sub.out [.i a,.i b])):sum.Sub.Kn :=
  Al (A0 hk _ _ _) Tryz.func207 (by kernel_rfl) (by kernel_rfl) h
end EqSum
open EqSum
theorem Ann (q:Nat):q ||| 1=2*(q / 2)+1:=by
  have e:q%2 ||| (q / 2*2^1)=q / 2*2^1+q%2:=Qk (Nat.mod_lt _ (by decide))
  have e1:1 ||| (q / 2*2^1)=q / 2*2^1+1:=Qk (k:=1) (by decide)
  have hq:q / 2*2^1+q%2=q:=by omega
  rw [hq] at e
  rcases Nat.mod_two_eq_zero_or_one q with h | h
  · rw [h,Nat.zero_or] at e
    rw [e,Nat.or_comm] at e1
    omega
  · rw [h] at e
    have:q ||| 1=q:=by
      conv=>lhs; rw [← e]
      rw [Nat.or_comm 1,Nat.or_assoc,Nat.or_self,Nat.or_comm,e]
    omega
theorem T3 {n s:Nat} (hn:n<2^64) (hs:s≤63) :
    (bif ((Bm .u64 (Ct .u64 (n:Int) (s:Int)) (s:Int)) !=(n:Int)) then
      some (DV.int .u64 (G6 .u64 (Ct .u64 (n:Int) (s:Int)) (1:Int)))
    else some (.int .u64 (Ct .u64 (n:Int) (s:Int))))=some (.int .u64 ((Ep n s:Nat):Int)):=by
  have hq:n / 2^s≤n:=Nat.div_le_self _ _
  have hm:n / 2^s*2^s≤n:=Nat.div_mul_le_self _ _
  have hd:=Nat.div_add_mod n (2^s)
  rw [Nat.mul_comm] at hd
  rw [F8 .u64 n s (by show s≤64; omega),Ek _ s (by omega),Aq9 (by omega)]
  have h1:G6 .u64 ((n / 2^s:Nat):Int) (1:Int)=((n / 2^s ||| 1:Nat):Int):=Yo (by omega) (by decide)
  rw [h1,Ann]
  unfold Ep
  by_cases h:n%2^s=0
  · have:((((n / 2^s*2^s:Nat):Int)) !=(n:Int))=false:=by
      simp only [bne_eq_false_iff_eq]; omega
    rw [this,if_pos h,Aq0]
  · have:((((n / 2^s*2^s:Nat):Int)) !=(n:Int))=true:=by
      simp only [bne_iff_ne,ne_eq]; omega
    rw [this,if_neg h,Aqw]
theorem sum.right.known:sum.right.Kn:=sum.right.Ad .nil fun m d hp=>by
  obtain ⟨h1,h2⟩:=Af.1 hp
  obtain ⟨n,rfl,hn⟩:=Bt h1
  have h2:=Ao.1 h2
  obtain ⟨d,rfl⟩:∃ k:Nat,d=k:=⟨d.toNat,by omega⟩
  refine ⟨0,sum.right.out [.i n,.i d],[],?_,.int⟩
  rw [sum.right.ev,Aq]
  show _=some (DV.int .u64 (D6 n d))
  unfold D6
  rw [Aqy,Aqy]
  by_cases h:63<d
  · have:decide ((63:Int)<(d:Int))=true:=by simp; omega
    rw [this,Aqw,Nat.min_eq_right (by omega)]
    exact T3 hn (Nat.le_refl 63)
  · have:decide ((63:Int)<(d:Int))=false:=by simp; omega
    have h0:decide ((0:Int)≤(d:Int))=true:=by simp
    rw [this,Aq0,h0,Aqw,Aqw,Nat.min_eq_left (by omega)]
    exact T3 hn (by omega)
theorem Ac1:((Vw:Nat):Int)=9221120237041090560:=rfl
theorem sum.Dr.known:sum.Dr.Kn:=sum.Dr.Ad (.cons soft.Finite.known (.cons soft.Kind.known .nil)) fun a b hp=>by
  obtain ⟨h1,h2⟩:=Af.1 hp
  obtain ⟨ha,hb⟩:=Af.1 h1
  obtain ⟨a,rfl,hn⟩:=Bt ha
  obtain ⟨b,rfl,hm⟩:=Bt hb
  refine ⟨0,sum.Dr.out [.i a,.i b],[],?_,Wk.Gb (.cons .int (.cons .int .nil))⟩
  rw [sum.Dr.ev,ha,hb]
  show _=some (DV.tup [.int .u64 (Jm a b),.int .u8 (Su a b)])
  unfold Jm Su N1 A4 Df
  simp only [Aqy,Aqw]
  unfold Df at h2
  simp only [Aqy] at h2
  by_cases a4:As a=4
  · simp [a4,Ac1]
  · have e4:((As a:Int)==4)=false:=by simp; omega
    rw [e4,Aq0]
    by_cases b4:As b=4
    · simp [b4,Ac1]
    · have f4:((As b:Int)==4)=false:=by simp; omega
      rw [f4,Aq0]
      have ka:=Uv a
      have kb:=Uv b
      by_cases a3:As a=3
      · have fa:Lu a=false:=by rw [ka]; simp [a3]
        rw [fa,Aq0]
        by_cases b3:As b=3
        · have fb:Lu b=false:=by rw [kb]; simp [b3]
          rw [fb]
          by_cases hab:a=b
          · subst hab; simp [a3]
          · have hab':((a:Int)==(b:Int))=false:=by simp; omega
            rw [hab']
            simp [a3,b3,hab,Ac1]
        · have fb:Lu b=true:=by rw [kb]; simp [b3,b4]
          rw [fb]
          simp [a3,b3,b4]
      · have fa:Lu a=true:=by rw [ka]; simp [a3,a4]
        have b3:As b=3:=by
          rw [fa,kb] at h2
          simp [b4] at h2
          exact h2
        rw [fa,Aqw]
        simp [a3,b3,a4]
def Ac7 (na nb:Bool) (X r:Nat) (e:Int):Nat × Nat :=
  if na=nb then Fb na (X+r) e false else if r<X then Fb na (X-r) e false else if X<r then Fb nb (r-X) e false else (0,0)
theorem Rp {na:Bool} {m:Int} {n:Nat} {e e':Int} (h:m=n) (he:e'=e) (hn:n<2^64) (h1:-1100≤e) (h2:e≤1000) :
    (bif Di m e' false then some (DV.tup [.int .u64 (Dz na m e' false),.int .u8 (Dy na m e' false)]) else none)
      = some (.tup [.int .u64 (((Fb na n e false).1:Nat):Int),.int .u8 (((Fb na n e false).2:Nat):Int)]):=by
  subst h; subst he
  have hp:Di (n:Int) e' false=true:=Ao.2 ⟨by omega,by omega,by omega,.inl (by omega),fun h=>by cases h⟩
  rw [hp,Aqw]
  unfold Dz Dy
  rw [Aqy]
theorem Aa2 (na nb:Bool) {X r:Nat} {e e':Int} (hX:X<2^62) (hr:r≤2^62) (h:e'=e) (h1:-1100≤e) (h2:e≤1000) :
    (bif (na==nb) then
      bif Di (A3 ((X:Int)+(r:Int))) e' false then some (DV.tup [.int .u64 (Dz na (A3 ((X:Int)+(r:Int))) e' false),.int .u8 (Dy na (A3 ((X:Int)+(r:Int))) e' false)]) else none
    else bif A1 (r:Int) (X:Int) then
      bif Di (A3 ((X:Int)-(r:Int))) e' false then some (DV.tup [.int .u64 (Dz na (A3 ((X:Int)-(r:Int))) e' false),.int .u8 (Dy na (A3 ((X:Int)-(r:Int))) e' false)]) else none
    else bif A1 (X:Int) (r:Int) then
      bif Di (A3 ((r:Int)-(X:Int))) e' false then some (DV.tup [.int .u64 (Dz nb (A3 ((r:Int)-(X:Int))) e' false),.int .u8 (Dy nb (A3 ((r:Int)-(X:Int))) e' false)]) else none
    else some (.tup [.int .u64 (0:Int),.int .u8 (0:Int)])) =
      some (.tup [.int .u64 (((Ac7 na nb X r e).1:Nat):Int),.int .u8 (((Ac7 na nb X r e).2:Nat):Int)]):=by
  unfold Ac7
  rw [Aq,Aq]
  by_cases hs:na=nb
  · have:(na==nb)=true:=by simp [hs]
    rw [this,Aqw,if_pos hs]
    exact Rp (by rw [Cg (by omega) (by omega)]; omega) h (by omega) h1 h2
  · have:(na==nb)=false:=by simp [hs]
    rw [this,Aq0,if_neg hs]
    by_cases hl:r<X
    · have:decide ((r:Int)<(X:Int))=true:=by simp; omega
      rw [this,Aqw,if_pos hl]
      exact Rp (by rw [Cg (by omega) (by omega)]; omega) h (by omega) h1 h2
    · have:decide ((r:Int)<(X:Int))=false:=by simp; omega
      rw [this,Aq0,if_neg hl]
      by_cases hg:X<r
      · have:decide ((X:Int)<(r:Int))=true:=by simp; omega
        rw [this,Aqw,if_pos hg]
        exact Rp (by rw [Cg (by omega) (by omega)]; omega) h (by omega) h1 h2
      · have:decide ((X:Int)<(r:Int))=false:=by simp; omega
        rw [this,Aq0,if_neg hg]
        rfl
theorem Ad1 {a b:Nat} (ha:Lu a=true) (hb:Lu b=true) (hle:Be b≤Be a) :
    ∃ X r:Nat,X<2^62∧r≤2^62∧Bm .u64 (Bf a) (9:Int)=(X:Int)∧D6 (Bm .u64 (Bf b) (9:Int)) (Ab (Aw a-Aw b))=(r:Int)
      ∧ Ab (Aw a-9)=Be a-9
      ∧ (Ai (Bm .u64 (Bf b) (9:Int))&&Cn (0≤(Ab ((Aw a)-(Aw b)))∧(Ab ((Aw a)-(Aw b)))<1000000))=true
      ∧ Ac7 (Dd a) (Dd b) X r (Be a-9)=N1 a b:=by
  obtain ⟨d,hd⟩:∃ d:Nat,Be a=Be b+d:=⟨(Be a-Be b).toNat,by omega⟩
  have hx:=Ei a
  have hy:=Ei b
  have ea:=Ea a
  have eb:=Ea b
  have C:=Aa1 (Mx:=Av a) (My:=Av b) hd hx hy (fun h=>Wf (by omega))
  have sh:∀ m:Nat,m<2^53→Bm .u64 (m:Int) (9:Int)=((m*2^9:Nat):Int):=fun m hm=>by
    have:=Ek m 9 (by decide)
    rw [Aq9 (by omega)] at this
    exact this
  have h2:Ab (Aw a-Aw b)=(d:Int):=by
    unfold Aw
    rw [Aqy,Aqy,An (by omega) (by omega)]; omega
  have s1:Bm .u64 (Bf a) (9:Int)=((Av a*2^9:Nat):Int):=by
    unfold Bf; rw [Aqy]; exact sh _ hx
  have s2:Bm .u64 (Bf b) (9:Int)=((Av b*2^9:Nat):Int):=by
    unfold Bf; rw [Aqy]; exact sh _ hy
  refine ⟨Av a*2^9,Ep (Av b*2^9) (min d 63),by omega,C.small,s1,?_,?_,?_,?_⟩
  · rw [s2,h2]; unfold D6; rw [Aqy,Aqy]
  · unfold Aw; rw [Aqy,An (by omega) (by omega)]
  · rw [s2,h2,B0 (by omega),Bool.true_and]
    exact Ao.2 ⟨by omega,by omega⟩
  · unfold Dd
    rw [Aqy,Aqy,Aa0 ha hb hd]
    rfl
theorem sum.Add.known:sum.Add.Kn:=sum.Add.Ad (.cons soft.Finite.known (.cons soft.Cq.known (.cons soft.E2.known (.cons soft.Sign.known (.cons sum.right.known (.cons sum.Dr.known .nil)))))) fun a b hp=>by
  obtain ⟨ha,hb⟩:=Af.1 hp
  obtain ⟨a,rfl,hn⟩:=Bt ha
  obtain ⟨b,rfl,hm⟩:=Bt hb
  refine ⟨0,sum.Add.out [.i a,.i b],[],?_,Wk.Gb (.cons .int (.cons .int .nil))⟩
  rw [sum.Add.ev,ha,hb]
  show _=some (DV.tup [.int .u64 (Jm a b),.int .u8 (Su a b)])
  rw [Bool.or_true,Aqw,Aqw]
  by_cases hf:(!(Df a)||!(Df b))=true
  · rw [hf]; rfl
  · have hf:(!(Df a)||!(Df b))=false:=by simpa using hf
    rw [hf,Aq0,Aqw,Aqw,Aqw,Aqw]
    have fa:Lu a=true:=by
      have:=(Bool.or_eq_false_iff.1 hf).1
      unfold Df at this
      simpa using this
    have fb:Lu b=true:=by
      have:=(Bool.or_eq_false_iff.1 hf).2
      unfold Df at this
      simpa using this
    have xa:=Ea a
    have xb:=Ea b
    rw [Aq]
    by_cases hl:Be a<Be b
    · obtain ⟨X,r,hX,hr,e1,e2,e3,e4,e5⟩:=Ad1 fb fa (by omega)
      have:decide (Aw a<Aw b)=true:=by unfold Aw; simpa using hl
      rw [this,Aqw,e4,Aqw,e1,e2,Aa2 _ _ hX hr e3 (by omega) (by omega),e5,Afz]
      rfl
    · obtain ⟨X,r,hX,hr,e1,e2,e3,e4,e5⟩:=Ad1 fa fb (by omega)
      have:decide (Aw a<Aw b)=false:=by unfold Aw; simpa using hl
      rw [this,Aq0,e4,Aqw,e1,e2,Aa2 _ _ hX hr e3 (by omega) (by omega),e5]
      rfl
theorem sum.Sub.known:sum.Sub.Kn:=sum.Sub.Ad (.cons soft.Fe.known (.cons sum.Add.known .nil)) fun a b hp=>by
  obtain ⟨ha,hb⟩:=Af.1 hp
  obtain ⟨b,rfl,hm⟩:=Bt hb
  refine ⟨0,sum.Sub.out [.i a,.i b],[],?_,Wk.Gb (.cons .int (.cons .int .nil))⟩
  have:Ai (Db (b:Int))=true:=by unfold Db; rw [Aqy]; exact B0 (Rr hm)
  rw [sum.Sub.ev,ha,hb,this]
  unfold Jm Su Db
  rw [Aqy]
  rfl
end Go.Proofs.S1
end
