/- A verified evaluator of the program's form and its use for this seat: S1PGg, S1PGgA, S1EqRef21, S1PRef21, S1PRef21A, S1PRef21B, S1EqRefM, S1PRefM, S1EqLaw17, S1PLaw17, S1EqLaw21, S1PLaw21. -/
import Derived.Test.YtjbokjpbiobjpaaGreatTK
import Derived.Test.YtjbokjpbiobjpaaGreatTE
import Derived.Test.YtjbokjpbiobjpaaGreatTF
import Derived.Test.YtjbokjpbiobjpaaGreatTG
import Derived.Test.YtjbokjpbiobjpaaGreatTJ
set_option linter.unusedVariables false
set_option linter.unusedSimpArgs false
noncomputable section
namespace Go.Proofs.S1
open Go Go.Den Go.Rnd Go.Proofs
open EqGg
def Oy (o:Option DV) (d:DV):Prop:=∃ dv drops,o=some dv∧Wk drops dv d
theorem Qn {E:Env} {fn:Func} {ds:List DV} {d:DV} (h:Oy (Bv E 0 fn (Am fn) ds) d):Bc E fn ds d:=by
  obtain ⟨dv,drops,e1,e2⟩:=h
  exact ⟨0,dv,drops,e1,e2⟩
def T6 (x y:MX) (e:Int):DV:=.tup [.agg [.int .i64 x.1,.int .i64 x.2.1,.ints .fresh .u64 x.2.2.1],.agg [.int .i64 y.1,.int .i64 y.2.1,.ints .fresh .u64 y.2.2.1],.int .i64 e]
theorem Y2 {drops:List Nat} {r c:Int} {l:List Int}:Wk drops (.agg [.int .i64 r,.int .i64 c,.ints .fresh .u64 l]) (.agg [.int .i64 r,.int .i64 c,.ints .fresh .u64 l]):=Wk.Ig (.cons .int (.cons .int (.cons .Ki .nil)))
theorem Adl {o:Option DV} {x y:MX} {e:Int} (h:o=some (T6 x y e)):Oy o (T6 x y e):=⟨_,[],h,Wk.Gd (.cons Y2 (.cons Y2 (.cons .int .nil)))⟩
theorem Kz {o:Option DV} {e e1 e2:Int} (h:o=some (We e)):Oy o (T6 (Gh e1) (Gh e2) e):=⟨_,[],h,W5⟩
theorem rq.both.known:rq.both.Kn:=rq.both.Ad (.cons Aa.C3.known .nil) fun r c l p q m _ =>
  ⟨0,_,[],rq.both.ev 0 r c l p q m,Wk.Gd (.cons Y2 (.cons Y2 .nil))⟩
theorem rq.Lq.known:rq.Lq.Kn:=rq.Lq.Ad (.cons Aa.C3.known (.cons qr.Cx.known (.cons rq.both.known .nil))) fun r c l hp=>Qn (by
  have al:Ah l=true:=hp
  show Oy _ (T6 (lqL r c l) (Y0 r c l) (Te r c l))
  rw [rq.Lq.ev]
  by_cases k:(A6 r c l).2.2.2=0
  · rw [Ff k,Aq2,N9 al,Aqy]
    by_cases kf:Hd (A6 r c l).1 (A6 r c l).2.1 (A6 r c l).2.2.1=0
    · have e:Te r c l=0:=by unfold Te; rw [if_neg (fun h=>h k)]; exact kf
      have d1:lqL r c l=Y7 (rX (A6 r c l).1 (A6 r c l).2.1 (A6 r c l).2.2.1):=by unfold lqL; rw [if_neg (fun h=>h e)]
      have d2:Y0 r c l=Y7 (qX (A6 r c l).1 (A6 r c l).2.1 (A6 r c l).2.2.1):=by unfold Y0; rw [if_neg (fun h=>h e)]
      rw [Ff kf,Aq2,d1,d2,e]
      exact Adl rfl
    · have e:Te r c l=Hd (A6 r c l).1 (A6 r c l).2.1 (A6 r c l).2.2.1:=by unfold Te; rw [if_neg (fun h=>h k)]
      have d1:lqL r c l=Gh (Te r c l):=by unfold lqL; rw [if_pos (by rw [e]; exact kf)]
      have d2:Y0 r c l=Gh (Te r c l):=by unfold Y0; rw [if_pos (by rw [e]; exact kf)]
      rw [Qt kf,Aqy,d1,d2,e]
      exact Kz rfl
  · have e:Te r c l=(A6 r c l).2.2.2:=by unfold Te; rw [if_pos k]
    have d1:lqL r c l=Gh (Te r c l):=by unfold lqL; rw [if_pos (by rw [e]; exact k)]
    have d2:Y0 r c l=Gh (Te r c l):=by unfold Y0; rw [if_pos (by rw [e]; exact k)]
    rw [Qt k,Aqy,d1,d2,e]
    exact Kz rfl)
theorem Amh {r c:Int} {l:List Int} (al:Ah l=true):Ah (lqL r c l).2.2.1=true∧Ah (Y0 r c l).2.2.1=true:=by
  unfold lqL Y0
  by_cases k:Te r c l=0
  · rw [if_neg (fun h=>h k),if_neg (fun h=>h k)]
    exact ⟨N9 (Zu (N9 al)).2,N9 (Zu (N9 al)).1⟩
  · rw [if_pos k,if_pos k]; exact ⟨En,En⟩
theorem Wm {r c p q u v:Int} (h:0≤c∧c≤6) (h':0≤q∧q≤6) :
    (((((p !=r)||(u !=r))||(v !=(1:Int)))||(A1 r c))||(A1 (Ab (c+q)) r))=decide (p≠r∨u≠r∨v≠1∨r<c∨c+q<r):=by
  rw [An (by omega) (by omega),Ar,Ar,Are]
  simp [or_assoc]
theorem A2.Check.known:A2.Check.Kn:=A2.Check.Ad (.cons B4.Check.known .nil) fun r c l p q m u v h hp=>by
  obtain ⟨h1,ah⟩:=Af.1 (show ((Ah l&&Ah m)&&Ah h)=true from hp)
  obtain ⟨al,am⟩:=Af.1 h1
  refine ⟨0+5,A2.Check.out [.i r,.i c,.l l,.i p,.i q,.l m,.i u,.i v,.l h],[],?_,.int⟩
  show _=some (DV.int .i64 (F8 r c l p q m u v h))
  rw [A2.Check.ev,al,am,ah,Aqy,Aqy,Aqy]
  unfold F8
  by_cases k1:Bx r c l=0
  · rw [Ff k1,Aq2,if_neg (fun h=>h k1)]
    by_cases k2:Bx p q m=0
    · rw [Ff k2,Aq2,if_neg (fun h=>h k2)]
      by_cases k4:Bx u v h=0
      · rw [Ff k4,Aq2,if_neg (fun h=>h k4)]
        have s1:=Ng (Gx k1).1
        have s2:=Ng (Gx k2).1
        rw [Wm s1.2.2 s2.2.2]
        by_cases k5:p≠r∨u≠r∨v≠1∨r<c∨c+q<r
        · rw [Aqz k5,Aqy,if_pos k5]
        · rw [Aq3 k5,Aq2,if_neg k5]
      · rw [Qt k4,Aqy,if_pos k4]
    · rw [Qt k2,Aqy,if_pos k2]
  · rw [Qt k1,Aqy,if_pos k1]
theorem Abj {r c:Int} {l:List Int} {p q:Int} {m:List Int} {u v:Int} {h:List Int} (e:F8 r c l p q m u v h=0) :
    Bx r c l=0∧Bx p q m=0∧Bx u v h=0∧p=r∧u=r∧v=1∧c≤r∧r≤c+q:=by
  unfold F8 at e
  by_cases k1:Bx r c l=0
  · rw [if_neg (fun h=>h k1)] at e
    by_cases k2:Bx p q m=0
    · rw [if_neg (fun h=>h k2)] at e
      by_cases k4:Bx u v h=0
      · rw [if_neg (fun h=>h k4)] at e
        by_cases k5:p≠r∨u≠r∨v≠1∨r<c∨c+q<r
        · rw [if_pos k5] at e; exact absurd e (by decide)
        · exact ⟨k1,k2,k4,by omega⟩
      · rw [if_pos k4] at e; exact absurd e k4
    · rw [if_pos k2] at e; exact absurd e k2
  · rw [if_pos k1] at e; exact absurd e k1
theorem A2.D3.known:A2.D3.Kn:=A2.D3.Ad (.cons Aa.Part.known .nil) fun r c l x y hp=>by
  have h:=Ao.1 (show Cn (-100≤x∧x≤100∧-100≤y∧y≤100)=true from hp)
  have e:=A2.D3.ev 0 r c l x y
  rw [An (by omega) (by omega)] at e
  exact ⟨0,_,[],e,Y2⟩
def Akr (a b c d f:MX) (e:Int):DV:=.tup [.agg [.int .i64 a.1,.int .i64 a.2.1,.ints .fresh .u64 a.2.2.1,.int .i64 b.1,.int .i64 b.2.1,.ints .fresh .u64 b.2.2.1,.int .i64 c.1,.int .i64 c.2.1,.ints .fresh .u64 c.2.2.1,.int .i64 d.1,.int .i64 d.2.1,.ints .fresh .u64 d.2.2.1,.int .i64 f.1,.int .i64 f.2.1,.ints .fresh .u64 f.2.2.1],.int .i64 e]
def Aqe (e:Int):DV:=.tup [.agg [.int .i64 0,.int .i64 0,.nil,.int .i64 0,.int .i64 0,.nil,.int .i64 0,.int .i64 0,.nil,.int .i64 0,.int .i64 0,.nil,.int .i64 0,.int .i64 0,.nil],.int .i64 e]
theorem Akp {o:Option DV} {a b c d f:MX} {e:Int} (h:o=some (Akr a b c d f e)):Oy o (Akr a b c d f e) :=
  ⟨_,[],h,Wk.Gd (.cons (Wk.Ig (.cons .int (.cons .int (.cons .Ki (.cons .int (.cons .int (.cons .Ki (.cons .int (.cons .int (.cons .Ki (.cons .int (.cons .int (.cons .Ki (.cons .int (.cons .int (.cons .Ki .nil)))))))))))))))) (.cons .int .nil))⟩
theorem Akq {o:Option DV} {e:Int} (h:o=some (Aqe e)) {a b c d f:Int}:Oy o (Akr (Gh a) (Gh b) (Gh c) (Gh d) (Gh f) e) :=
  ⟨_,[],h,Wk.Gd (.cons (Wk.Ig (.cons .int (.cons .int (.cons Hy (.cons .int (.cons .int (.cons Hy (.cons .int (.cons .int (.cons Hy (.cons .int (.cons .int (.cons Hy (.cons .int (.cons .int (.cons Hy .nil)))))))))))))))) (.cons .int .nil))⟩
theorem Nr {e:Int} (h:e=0) (x:MX):Mf e x=x:=by unfold Mf; rw [if_neg (fun k=>k h)]
theorem Ux {e:Int} (h:e≠0) (x:MX):Mf e x=Gh e:=by unfold Mf; rw [if_pos h]
def Aey (e:Int) (a b c d f:MX):DV:=Akr (Mf e a) (Mf e b) (Mf e c) (Mf e d) (Mf e f) e
theorem S8 {o:Option DV} {e:Int} {a b c d f:MX} (he:e≠0) (h:o=some (Aqe e)):Oy o (Aey e a b c d f):=by
  unfold Aey
  rw [Ux he,Ux he,Ux he,Ux he,Ux he]
  exact Akq h
section
variable {N:Nat} {r c p q u v:Int} {l m h:List Int} {R Q T C W:MX}
theorem An3 (hr:0≤r∧r≤6) (hc:0≤c∧c≤6):Oy (A2.apart.C14 N r c l p q m u v h R.1 R.2.1 R.2.2.1 Q.1 Q.2.1 Q.2.2.1 T.1 T.2.1 T.2.2.1 C.1 C.2.1 C.2.2.1 W.1 W.2.1 W.2.2.1) (Aey 0 T (G5 c C) (Fl r c C) (G5 c W) (Fl r c W)):=by
  rw [A2.apart.Ve,Ao.2 (show -100≤(0:Int)∧(0:Int)≤100∧-100≤c∧c≤100 by omega),Ao.2 (show -100≤c∧c≤100∧-100≤r∧r≤100 by omega),Aqy,Aqy,Aqy,Aqy,Int.sub_zero]
  exact Akp rfl
theorem An4 (hr:0≤r∧r≤6) (hc:0≤c∧c≤6) (aC:Ah C.2.2.1=true) (aW:Ah W.2.2.1=true):Oy (A2.apart.C12 N r c l p q m u v h R.1 R.2.1 R.2.2.1 Q.1 Q.2.1 Q.2.2.1 T.1 T.2.1 T.2.2.1 C.1 C.2.1 C.2.2.1 W.1 W.2.1 W.2.2.1)
    (Aey (if Px C≠0∨Px W≠0 then 2 else 0) T (G5 c C) (Fl r c C) (G5 c W) (Fl r c W)):=by
  rw [A2.apart.Vf,aC,aW,Bool.or_true,Aqy,Aqy]
  by_cases k1:Px C=0
  · rw [Ff (show Bx C.1 C.2.1 C.2.2.1=0 from k1),Bool.false_or]
    by_cases k2:Px W=0
    · rw [Ff (show Bx W.1 W.2.1 W.2.2.1=0 from k2),Aq2,if_neg (fun h=>h.elim (fun h=>h k1) (fun h=>h k2))]
      exact An3 hr hc
    · rw [Qt (show Bx W.1 W.2.1 W.2.2.1≠0 from k2),Aqy,if_pos (.inr k2)]
      exact S8 (by decide) rfl
  · rw [Qt (show Bx C.1 C.2.1 C.2.2.1≠0 from k1),Bool.true_or,Aqy,if_pos (.inl k1)]
    exact S8 (by decide) rfl
theorem Aqk (hr:0≤r∧r≤6) (hc:0≤c∧c≤6) (aT:Ah T.2.2.1=true) (aQ:Ah Q.2.2.1=true) (ah:Ah h=true) (am:Ah m=true):Oy (A2.apart.C7 N r c l p q m u v h R.1 R.2.1 R.2.2.1 Q.1 Q.2.1 Q.2.2.1 T.1 T.2.1 T.2.2.1)
    (Aey (if Uz T=true then 5 else if Px (F2 Q (u,v,h,0))≠0∨Px (F2 Q (p,q,m,0))≠0 then 2 else 0) T (G5 c (F2 Q (u,v,h,0))) (Fl r c (F2 Q (u,v,h,0))) (G5 c (F2 Q (p,q,m,0))) (Fl r c (F2 Q (p,q,m,0)))):=by
  rw [A2.apart.Ajs,aT,Aqy]
  cases k:Uz T with
  | true =>
    rw [show (Mz T.1 T.2.1 T.2.2.1).1=true from k,Aqy,if_pos rfl]
    exact S8 (by decide) rfl
  | false =>
    rw [show (Mz T.1 T.2.1 T.2.2.1).1=false from k,Aq2,if_neg (by decide),aQ,ah,Aq4,Aqy,A2.apart.Ac6,aQ,am,Aq4,Aqy]
    exact An4 (C:=F2 Q (u,v,h,0)) (W:=F2 Q (p,q,m,0)) hr hc (J2 _ _ _ _ _ _) (J2 _ _ _ _ _ _)
theorem A2.apart.known:A2.apart.Kn:=A2.apart.Ad (.cons B4.Check.known (.cons A2.D3.known (.cons qr.Cx.known (.cons qr.Ed.known (.cons solve.Flat.known .nil))))) fun r c l p q m u v h hp=>Qn (by
  obtain ⟨h0,hz⟩:=Af.1 (show (N1 l m h&&decide (F8 r c l p q m u v h=0))=true from hp)
  obtain ⟨h1,ah⟩:=Af.1 (show ((Ah l&&Ah m)&&Ah h)=true from h0)
  obtain ⟨al,am⟩:=Af.1 h1
  obtain ⟨k1,_⟩:=Abj (of_decide_eq_true hz)
  have s1:=Ng (Gx k1).1
  show Oy _ (Aey (gE r c l p q m u v h) (gT r c l) (G5 c (gC r c l u v h)) (Fl r c (gC r c l u v h)) (G5 c (gC r c l p q m)) (Fl r c (gC r c l p q m)))
  rw [A2.apart.ev,al,Aqy,A2.apart.Ajt]
  unfold gE
  by_cases k:Hd r c l=0
  · rw [Ff k,Aq2,if_neg (fun h=>h k),Ao.2 (show -100≤(0:Int)∧(0:Int)≤100∧-100≤c∧c≤100 by omega),Aqy,Int.sub_zero]
    exact Aqk (R:=rX r c l) (Q:=qX r c l) (T:=gT r c l) ⟨s1.1,s1.2.1⟩ s1.2.2 (Ky (Zu al).2 _ _ _ _) (Zu al).1 ah am
  · rw [Qt k,Aqy,if_pos k]
    exact S8 k rfl)
end
def Aba (o:Option DV) (x:MX):Prop:=Oy o (Pk x)
theorem Xo {o:Option DV} {x:MX} (h:o=some (Pk x)):Aba o x:=⟨_,[],h,L4⟩
theorem Xp {o:Option DV} {e:Int} (h:o=some (Ae2 e)):Aba o (Gh e):=⟨_,[],h,Ku⟩
section
variable {N:Nat} {r c p q:Int} {l m:List Int} {Q L S w o y:MX}
theorem An9 (ay:Ah y.2.2.1=true):Aba (A2.errors.C14 N r c l p q m Q.1 Q.2.1 Q.2.2.1 L.1 L.2.1 L.2.2.1 S.1 S.2.1 S.2.2.1 w.1 w.2.1 w.2.2.1 o.1 o.2.1 o.2.2.1 y.2.2.2 y.1 y.2.1 y.2.2.1) (y.1,y.2.1,y.2.2.1,(Aiq y).2.2.2):=by
  rw [A2.errors.Ve,ay,Bool.or_true,Aqy]
  unfold Aiq Air
  by_cases k:y.2.2.2=0
  · rw [k,if_neg (fun h=>h rfl),show ((0:Int)==0)=true from rfl,Bool.true_and]
    by_cases k1:Bx y.1 y.2.1 y.2.2.1=0
    · rw [Ff k1,Aq2,if_neg (fun h=>h k1)]; exact Xo rfl
    · rw [Qt k1,Aqy,if_pos k1]; exact Xo rfl
  · rw [show (y.2.2.2==(0:Int))=false from by rw [beq_eq_false_iff_ne]; exact k,Bool.false_and,Aq2,if_pos k]; exact Xo rfl
theorem A2.errors.known:A2.errors.Kn:=A2.errors.Ad (.cons B4.Check.known (.cons Aa.Part.known (.cons qr.Ed.known (.cons rq.Lq.known (.cons solve.Flat.known (.cons solve.Gq.known .nil)))))) fun r c l p q m hp=>Qn (by
  obtain ⟨al,am⟩:=Af.1 (show (Ah l&&Ah m)=true from hp)
  show Aba _ (erZ (r,c,l,0) (p,q,m,0))
  rw [A2.errors.ev,al,Aqy,A2.errors.Ajt]
  unfold erZ
  by_cases k:Te r c l=0
  · rw [Ff k,Aq2,if_neg (fun h=>h k),A2.errors.Aqv,Ky (Amh al).1,Aqy]
    cases kf:Uz (Yg (r,c,l,0)) with
    | true =>
      refine (congrArg (fun o=>Aba o _) ((congrArg (fun x=>bif x then _ else _) (show _=true from kf)).trans (Aqy _ _))).mpr ?_
      rw [if_pos rfl]
      exact Xp rfl
    | false =>
      refine (congrArg (fun o=>Aba o _) ((congrArg (fun x=>bif x then _ else _) (show _=false from kf)).trans (Aq2 _ _))).mpr ?_
      rw [if_neg (by decide),am,Bool.and_true,Aqy,A2.errors.Aoo]
      by_cases k2:(Vg (Yg (r,c,l,0)) (p,q,m,0)).2.2.2=0
      · refine (congrArg (fun o=>Aba o _) ((congrArg (fun x=>bif x then _ else _) (Ff k2)).trans (Aq2 _ _))).mpr ?_
        rw [if_neg (fun h=>h k2),A2.errors.Aon,Ky (Amh al).2,Ah0,Aq4,Aqy]
        exact An9 (Q:=Y0 r c l) (L:=lqL r c l) (S:=Yg (r,c,l,0)) (w:=Vg (Yg (r,c,l,0)) (p,q,m,0)) (o:=erO (r,c,l,0)) (y:=F2 (erO (r,c,l,0)) (Vg (Yg (r,c,l,0)) (p,q,m,0))) (J2 _ _ _ _ _ _)
      · refine (congrArg (fun o=>Aba o _) ((congrArg (fun x=>bif x then _ else _) (Qt k2)).trans (Aqy _ _))).mpr ?_
        rw [if_pos k2]; exact Xp rfl
  · rw [Qt k,Aqy,if_pos k]; exact Xp rfl)
end
open EqGg
theorem Aot {r c:Int} {l:List Int} {p q:Int} {m:List Int} (h:(Vv r c l p q m).2.2.2≠0):Vv r c l p q m=Gh (Vv r c l p q m).2.2.2:=by
  unfold Vv Is at h ⊢
  by_cases k:M5 r c l p q m=0
  · rw [if_neg (fun h=>h k)] at h ⊢
    by_cases k2:D8 (Y6 c l q m r.toNat q.toNat)=true
    · rw [if_pos k2] at h; exact absurd rfl h
    · rw [if_neg k2]; rfl
  · rw [if_pos k]; rfl
theorem All (x y:MX):(erZ x y).2.2.2=(erY x y).2.2.2∧((erY x y).2.2.2=0→erZ x y=erY x y):=by
  unfold erZ erY
  by_cases k1:Te x.1 x.2.1 x.2.2.1≠0
  · rw [if_pos k1,if_pos k1]; exact ⟨rfl,fun _=>rfl⟩
  · rw [if_neg k1,if_neg k1]
    by_cases k2:Uz (Yg x)=true
    · rw [if_pos k2,if_pos k2]; exact ⟨rfl,fun _=>rfl⟩
    · rw [if_neg k2,if_neg k2]
      by_cases k3:(Vg (Yg x) y).2.2.2≠0
      · rw [if_pos k3,if_pos k3]; exact ⟨rfl,fun _=>rfl⟩
      · rw [if_neg k3,if_neg k3]
        generalize F2 (erO x) (Vg (Yg x) y)=z
        refine ⟨rfl,?_⟩
        unfold Aiq Air
        by_cases k4:z.2.2.2≠0
        · rw [if_pos k4]; intro h; exact absurd h k4
        · rw [if_neg k4]
          by_cases k5:Bx z.1 z.2.1 z.2.2.1≠0
          · rw [if_pos k5]; intro h; exact absurd h (by decide)
          · rw [if_neg k5]; intro _; rfl
theorem Aoa (x y:MX):Ah (erY x y).2.2.1=true:=by
  unfold erY
  split
  · exact En
  · split
    · exact En
    · split
      · exact En
      · exact Alh (J2 _ _ _ _ _ _)
section
variable {N:Nat} {r c p q u v:Int} {l m h:List Int} {T C E c1 c2 e1 e2 y d f x:MX}
theorem Ane (hx:x.2.2.2≠0→x=Gh x.2.2.2) :
    Oy (A2.Solve.C15 N r c l p q m u v h T.1 T.2.1 T.2.2.1 c1.1 c1.2.1 c1.2.2.1 c2.1 c2.2.1 c2.2.2.1 e1.1 e1.2.1 e1.2.2.1 e2.1 e2.2.1 e2.2.2.1 y.1 y.2.1 y.2.2.1 d.1 d.2.1 d.2.2.1 f.1 f.2.1 f.2.2.1 x.2.2.2 x.1 x.2.1 x.2.2.1) (T6 x (if x.2.2.2≠0 then Gh x.2.2.2 else y) x.2.2.2):=by
  rw [A2.Solve.Aom]
  by_cases k:x.2.2.2=0
  · rw [Ff k,Aq2,if_neg (fun h=>h k),k]; exact Adl rfl
  · have e:T6 x (Gh x.2.2.2) x.2.2.2=T6 (Gh x.2.2.2) (Gh x.2.2.2) x.2.2.2:=congrArg (fun z=>T6 z (Gh x.2.2.2) x.2.2.2) (hx k)
    rw [Qt k,Aqy,if_pos k,e]; exact Kz rfl
theorem Anf (aT:Ah T.2.2.1=true) (af:Ah f.2.2.1=true) :
    Oy (A2.Solve.C12 N r c l p q m u v h T.1 T.2.1 T.2.2.1 c1.1 c1.2.1 c1.2.2.1 c2.1 c2.2.1 c2.2.2.1 e1.1 e1.2.1 e1.2.2.1 e2.1 e2.2.1 e2.2.2.1 y.1 y.2.1 y.2.2.1 d.1 d.2.1 d.2.2.1 f.1 f.2.1 f.2.2.1)
      (T6 (if Px f≠0 then Gh 2 else upM T f) (if Px f≠0 then Gh 2 else if (upM T f).2.2.2≠0 then Gh (upM T f).2.2.2 else y) (if Px f≠0 then Gh 2 else upM T f).2.2.2):=by
  rw [A2.Solve.Vf,aT,af,Aq4,Aqy,Aqy]
  by_cases k:Px f=0
  · have k':¬ (Px f≠0):=fun h=>h k
    rw [Ff (show Bx f.1 f.2.1 f.2.2.1=0 from k),Aq2,if_neg k',if_neg k']
    exact Ane (x:=upM T f) Aot
  · rw [Qt (show Bx f.1 f.2.1 f.2.2.1≠0 from k),Aqy,if_pos k,if_pos k]; exact Kz rfl
theorem Aqc (aT:Ah T.2.2.1=true) (aC:Ah (G5 c C).2.2.1=true) (aE:Ah (G5 c E).2.2.1=true) (ay:Ah y.2.2.1=true) :
    Oy (A2.Solve.C8 N r c l p q m u v h T.1 T.2.1 T.2.2.1 (G5 c C).1 (G5 c C).2.1 (G5 c C).2.2.1 c2.1 c2.2.1 c2.2.2.1 (G5 c E).1 (G5 c E).2.1 (G5 c E).2.2.1 e2.1 e2.2.1 e2.2.2.1 y.2.2.2 y.1 y.2.1 y.2.2.1)
      (T6 (gX2 r c T C E y) (gY2 r c T C E y) (gX2 r c T C E y).2.2.2):=by
  rw [A2.Solve.Amr]
  unfold gX2 gY2
  by_cases k:y.2.2.2=0
  · have k':¬ (y.2.2.2≠0):=fun h=>h k
    rw [Ff k,Aq2,if_neg k',if_neg k',aE,ay,Aq4,Aqy,A2.Solve.Ac6,aC,X0,Aq4,Aqy]
    exact Anf (c1:=G5 c C) (e1:=G5 c E) (d:=mulM (G5 c E) y) (f:=gF r c C E y) aT (Akc aC (X0 _ _ _ _ _ _))
  · rw [Qt k,Aqy,if_pos k,if_pos k]; exact Kz rfl
end
theorem A2.Solve.known:A2.Solve.Kn:=A2.Solve.Ad (.cons B4.Check.known (.cons A2.Check.known (.cons A2.apart.known (.cons A2.errors.known (.cons Aa.Mul.known (.cons Aa.Sub.known (.cons solve.Gk.known .nil))))))) fun r c l p q m u v h hp=>Qn (by
  have h0:N1 l m h=true:=hp
  obtain ⟨h1,ah⟩:=Af.1 (show ((Ah l&&Ah m)&&Ah h)=true from h0)
  obtain ⟨al,am⟩:=Af.1 h1
  show Oy _ (T6 (gX r c l p q m u v h) (gY r c l p q m u v h) (gX r c l p q m u v h).2.2.2)
  rw [A2.Solve.ev,h0,Aqy]
  unfold gX gY
  by_cases k:F8 r c l p q m u v h=0
  · have k':¬ (F8 r c l p q m u v h≠0):=fun h=>h k
    rw [Ff k,Aq2,Aqz k,Aq4,Aqy,if_neg k',if_neg k',A2.Solve.Aqw]
    by_cases k2:gE r c l p q m u v h=0
    · have aC:Ah (gC r c l u v h).2.2.1=true:=J2 _ _ _ _ _ _
      have aE:Ah (gC r c l p q m).2.2.1=true:=J2 _ _ _ _ _ _
      have aT:Ah (gT r c l).2.2.1=true:=Ky (Zu al).2 _ _ _ _
      have k2':¬ (gE r c l p q m u v h≠0):=fun h=>h k2
      rw [Ff k2,Aq2,if_neg k2',if_neg k2',Nr k2,Nr k2,Nr k2,Nr k2,Nr k2,
        show Ah (Fl r c (gC r c l p q m)).2.2.1=true from Ky aE _ _ _ _,show Ah (Fl r c (gC r c l u v h)).2.2.1=true from Ky aC _ _ _ _,Aq4,Aqy]
      obtain ⟨s1,s2⟩:=All (Fl r c (gC r c l p q m)) (Fl r c (gC r c l u v h))
      by_cases k3:(erY (Fl r c (gC r c l p q m)) (Fl r c (gC r c l u v h))).2.2.2=0
      · have e:erZ ((Fl r c (gC r c l p q m)).1,(Fl r c (gC r c l p q m)).2.1,(Fl r c (gC r c l p q m)).2.2.1,0) ((Fl r c (gC r c l u v h)).1,(Fl r c (gC r c l u v h)).2.1,(Fl r c (gC r c l u v h)).2.2.1,0)=gY0 r c l p q m u v h:=s2 k3
        rw [e]
        exact Aqc (c2:=Fl r c (gC r c l u v h)) (e2:=Fl r c (gC r c l p q m)) aT (Ky aC _ _ _ _) (Ky aE _ _ _ _) (Aoa _ _)
      · have e:(erZ ((Fl r c (gC r c l p q m)).1,(Fl r c (gC r c l p q m)).2.1,(Fl r c (gC r c l p q m)).2.2.1,0) ((Fl r c (gC r c l u v h)).1,(Fl r c (gC r c l u v h)).2.1,(Fl r c (gC r c l u v h)).2.2.1,0)).2.2.2=(gY0 r c l p q m u v h).2.2.2:=s1
        have k4:(gY0 r c l p q m u v h).2.2.2≠0:=k3
        rw [A2.Solve.Amr,e,Qt k4,Aqy]
        unfold gX2 gY2
        rw [if_pos k4,if_pos k4]
        exact Kz rfl
    · rw [Qt k2,Aqy,if_pos k2,if_pos k2]; exact Kz rfl
  · rw [Qt k,Aqy,if_pos k,if_pos k]
    exact Kz rfl)
set_option maxRecDepth 100000
namespace EqRef21
def Fz.Check.hint:Nat→Option A5
  | 0=>some { keep:=[1,3,4],objs:=[(0,3,100003,.recs 24 3 [])],boxes:=[1] }
  | _=>none
def Fz.Check.Ba:List (Nat × Entry):=[(25,Gf.Check.spec)]
def Fz.Check.E:Env:=Bb (A9 Fz.Check.Ba) (fun _=>false) Fz.Check.hint (fun _=>none)
theorem Fz.Check.ev (N:Nat) (r c:Int) (l:List Int) (p q:Int) (m:List Int) (u v:Int) (h:List Int):Bv Fz.Check.E (N+5) Tryz.f57 (Am Tryz.f57) [.agg [.int .i64 r,.int .i64 c,.ints .arg .u64 l,.int .i64 p,.int .i64 q,.ints .arg .u64 m,.int .i64 u,.int .i64 v,.ints .arg .u64 h]]=bif (Ah l) then bif ((Bx r c l) !=(0:Int)) then bif (Ah l) then some (.int .i64 (Bx r c l)) else none else bif (Ah m) then bif ((Bx p q m) !=(0:Int)) then bif (Ah m) then some (.int .i64 (Bx p q m)) else none else bif (Ah h) then bif ((Bx u v h) !=(0:Int)) then bif (Ah h) then some (.int .i64 (Bx u v h)) else none else bif (((((r !=p)||(r !=u))||(v !=(1:Int)))||(A1 r c))||(A1 (Ab (c+q)) r)) then some (.int .i64 3) else some (.int .i64 0) else none else none else none :=
  Eq.trans (by kernel_rfl)
  (E2 (E2 rfl (E2 (E2 rfl (E2 (E2 rfl (Ap (Tq (r !=p)) (Ap (Rd (r !=p)) (Ap (Rd (r !=p)) (Ap (Tq (r !=p)) (Ap (Rd (r !=p)) (Ap (Rd (r !=p)) (Ap (tt8 (r !=p)) (Ap (Y8 (r !=p)) (Ap (Ad9 (r !=p) (r !=u)) (Ap (Xb (r !=p) (r !=u)) (Ap (Xb (r !=p) (r !=u)) (Ap (Xb (r !=p) (r !=u)) (Ap (Aj5 (r !=p) (r !=u)) (Ap (Aea (r !=p) (r !=u) (v !=(1:Int))) (Ap (Aeb (r !=p) (r !=u) (v !=(1:Int))) (Ap (Aeb (r !=p) (r !=u) (v !=(1:Int))) (Ap (Aea (r !=p) (r !=u) (v !=(1:Int))) (Ap (Aeb (r !=p) (r !=u) (v !=(1:Int))) (Ap (Aeb (r !=p) (r !=u) (v !=(1:Int))) (Ap (Amd (r !=p) (r !=u) (v !=(1:Int))) (Ap (Aj6 (r !=p) (r !=u) (v !=(1:Int))) (Ap (Vh (r !=p) (r !=u) (v !=(1:Int)) (A1 r c)) (Ap (Vi (r !=p) (r !=u) (v !=(1:Int)) (A1 r c)) (Ap (Vi (r !=p) (r !=u) (v !=(1:Int)) (A1 r c)) (Ap (Vh (r !=p) (r !=u) (v !=(1:Int)) (A1 r c)) (Ap (Vi (r !=p) (r !=u) (v !=(1:Int)) (A1 r c)) (Ap (Vi (r !=p) (r !=u) (v !=(1:Int)) (A1 r c)) (Ap (Vh (r !=p) (r !=u) (v !=(1:Int)) (A1 r c)) (Ap (Vi (r !=p) (r !=u) (v !=(1:Int)) (A1 r c)) (Ap (Vi (r !=p) (r !=u) (v !=(1:Int)) (A1 r c)) (Ap (Aec (r !=p) (r !=u) (v !=(1:Int)) (A1 r c)) (Ap (Aec (r !=p) (r !=u) (v !=(1:Int)) (A1 r c)) (Ap (Aj7 (r !=p) (r !=u) (v !=(1:Int)) (A1 r c)) (Cy (Am1 (r !=p) (r !=u) (v !=(1:Int)) (A1 r c) (A1 (Ab (c+q)) r)) rfl rfl))))))))))))))))))))))))))))))))))) rfl)) rfl)) rfl)
abbrev _root_.Go.Proofs.S1.Fz.Check.Kn:=A4 Tryz.prog 57 Fz.Check.spec
theorem Fz.Check.Ad (hk:Ax Tryz.prog Fz.Check.Ba) (h:∀ (r c:Int) (l:List Int) (p q:Int) (m:List Int) (u v:Int) (h:List Int),Fz.Check.pre [.i r,.i c,.l l,.i p,.i q,.l m,.i u,.i v,.l h]=true→Bc Fz.Check.E Tryz.f57 [.agg [.int .i64 r,.int .i64 c,.ints .arg .u64 l,.int .i64 p,.int .i64 q,.ints .arg .u64 m,.int .i64 u,.int .i64 v,.ints .arg .u64 h]] (Fz.Check.out [.i r,.i c,.l l,.i p,.i q,.l m,.i u,.i v,.l h])):Fz.Check.Kn :=
  Al (Ay hk _ _ _) Tryz.func57 (by kernel_rfl) (by kernel_rfl) h
end EqRef21
open EqRef21
theorem Ack {r c p q u v:Int} (h:0≤c∧c≤6) (h':0≤q∧q≤6) :
    (((((r !=p)||(r !=u))||(v !=(1:Int)))||(A1 r c))||(A1 (Ab (c+q)) r))=decide (p≠r∨u≠r∨v≠1∨r<c∨c+q<r):=by
  rw [← Wm h h',bne_comm (a:=r) (b:=p),bne_comm (a:=r) (b:=u)]
theorem Fz.Check.known:Fz.Check.Kn:=Fz.Check.Ad (.cons Gf.Check.known .nil) fun r c l p q m u v h hp=>by
  obtain ⟨h1,ah⟩:=Af.1 (show ((Ah l&&Ah m)&&Ah h)=true from hp)
  obtain ⟨al,am⟩:=Af.1 h1
  refine ⟨0+5,Fz.Check.out [.i r,.i c,.l l,.i p,.i q,.l m,.i u,.i v,.l h],[],?_,.int⟩
  show _=some (DV.int .i64 (F8 r c l p q m u v h))
  rw [Fz.Check.ev,al,am,ah]
  simp only [Aqy]
  unfold F8
  by_cases k1:Bx r c l=0
  · rw [Ff k1,Aq2,if_neg (fun h=>h k1)]
    by_cases k2:Bx p q m=0
    · rw [Ff k2,Aq2,if_neg (fun h=>h k2)]
      by_cases k4:Bx u v h=0
      · rw [Ff k4,Aq2,if_neg (fun h=>h k4)]
        have s1:=Ng (Gx k1).1
        have s2:=Ng (Gx k2).1
        rw [Ack s1.2.2 s2.2.2]
        by_cases k5:p≠r∨u≠r∨v≠1∨r<c∨c+q<r
        · rw [Aqz k5,Aqy,if_pos k5]
        · rw [Aq3 k5,Aq2,if_neg k5]
      · rw [Qt k4,Aqy,if_pos k4]
    · rw [Qt k2,Aqy,if_pos k2]
  · rw [Qt k1,Aqy,if_pos k1]
open EqRef21
theorem N6.lo' {R:Nat} {x y:MX} (h:N6 R R x) (e:(Vg x y).2.2.2=0):∃ C,N6 R C (Vg x y)∧FM (Vg x y):=by
  obtain ⟨l,rfl,r6,c6,hl,al⟩:=h
  obtain ⟨P,Q,Y,e1,e2,a6,b6,e3,e4,e5,e6⟩:=Aad e
  dsimp only at e1 e2
  obtain rfl:P=R:=by omega
  have e7:Vg ((P:Int),(P:Int),l,0) y=((P:Int),(Q:Int),Y,0):=e3
  rw [e7]
  exact ⟨Q,.mk a6 b6 e4 e6,e5⟩
section
variable {N R C:Nat} {p q:Int} {l m:List Int} {Q L S w y:MX} {ok:Bool}
end
open EqRef21
section
variable {N n k b:Nat} {l m h:List Int} {Q R C W y f x:MX} {ok:Bool}
end
namespace EqRefM
def Ac.single.hint:Nat→Option A5
  | 0=>some { keep:=[0,1,5,6,7],objs:=[(0,5,100005,.ints 173 .u32 [])],boxes:=[] }
  | _=>none
def Ac.single.Ba:List (Nat × Entry):=[]
def Ac.single.E:Env:=Bb (A9 Ac.single.Ba) (fun _=>false) Ac.single.hint (fun _=>none)
def Ac.single.L0 (N M:Nat) (a:List Int) (x p6 p7:Int) (p5:List Int):Option DV:=B2 Ac.single.E N Tryz.f175 (Am Tryz.f175) [1,1,1,0,1,0] [] M ⟨Fw 39 [(0,.ints .arg .u32 a),(1,.int .u32 x),(5,.oref 100005),(6,.int .u64 p6),(7,.int .i64 p7)],[(100005,false,.ints 173 .u32 p5)]⟩
theorem Ac.single.At (N M:Nat) (a:List Int) (x p6 p7:Int) (p5:List Int):Ac.single.L0 N (M+1) a x p6 p7 p5=bif (A1 p7 (List.length a:Int)) then bif ((decide (0≤p7))&&(decide (p7<(List.length a:Int)))) then bif (decide ((List.length p5)+1≤Gv)) then Ac.single.L0 N M a x (A3 (Int.tdiv (A3 ((A3 ((A3 (List.getD a (Int.toNat p7) 0))*(A3 x)))+p6)) 4294967296)) (Ab (p7+1)) (p5++[(Hn (Int.tmod (A3 ((A3 ((A3 (List.getD a (Int.toNat p7) 0))*(A3 x)))+p6)) 4294967296))]) else none else none else bif (decide ((List.length p5)+1≤Gv)) then some (.ints (.own 38 173) .u32 (p5++[(Hn p6)])) else none:=by kernel_rfl
theorem Ac.single.ev (N:Nat) (a:List Int) (x:Int):Bv Ac.single.E N Tryz.f175 (Am Tryz.f175) [.ints .arg .u32 a,.int .u32 x] =
  Ac.single.L0 N N a x 0 0 []:=by kernel_rfl
abbrev _root_.Go.Proofs.S1.Ac.single.Kn:=A4 Tryz.prog 175 Ac.single.spec
theorem Ac.single.Ad (hk:Ax Tryz.prog Ac.single.Ba) (h:∀ (a:List Int) (x:Int),Ac.single.pre [.l a,.i x]=true→Bc Ac.single.E Tryz.f175 [.ints .arg .u32 a,.int .u32 x] (Ac.single.out [.l a,.i x])):Ac.single.Kn :=
  Al (Ay hk _ _ _) Tryz.func175 (by kernel_rfl) (by kernel_rfl) h
def Ac.Mul.hint:Nat→Option A5
  | 0=>some { keep:=[2,3,4,5,6],objs:=[(0,5,100005,.ints 173 .u32 [])],boxes:=[2,3,4] }
  | _=>none
def Ac.Mul.Ba:List (Nat × Entry):=[(171,Ac.Made.spec),(174,Ac.plus.own.spec),(175,Ac.single.spec)]
def Ac.Mul.E:Env:=Bb (A9 Ac.Mul.Ba) (fun n=>Nat.beq n 29) Ac.Mul.hint (fun _=>none)
def Ac.Mul.L0 (N M:Nat) (n:Bool) (a:List Int) (m:Bool) (b:List Int) (p6:Int) (p5:List Int):Option DV:=B2 Ac.Mul.E N Tryz.f110 (Am Tryz.f110) [1,1,0,1,0] [] M ⟨Fw 37 [(2,.ptr 2 0 0),(3,.ptr 3 0 0),(4,.ptr 4 0 0),(5,.oref 100005),(6,.int .i64 p6)],[(2,false,.box [.bool n,.ints .arg .u32 a]),(3,false,.box [.bool m,.ints .arg .u32 b]),(4,false,.box [.bool false,.nil]),(100005,false,.ints 173 .u32 p5)]⟩
theorem Ac.Mul.At (N M:Nat) (n:Bool) (a:List Int) (m:Bool) (b:List Int) (p6:Int) (p5:List Int):Ac.Mul.L0 N (M+1) n a m b p6 p5=bif (Dk 0 p6) then bif (decide (1+(List.length p5)≤Gv)) then bif ((decide (0≤p6))&&(decide (p6<(List.length b:Int)))) then bif (E6 a&&Adt (List.getD b (Int.toNat p6) 0)) then bif (E6 ([(0:Int)]++p5)&&E6 (singleL a (List.getD b (Int.toNat p6) 0))) then Ac.Mul.L0 N M n a m b (Ab (p6-1)) (G3 ([(0:Int)]++p5) (singleL a (List.getD b (Int.toNat p6) 0))) else none else none else none else none else bif (E6 p5) then some (.agg [.bool (As (wv (!(n==m)) p5)),.ints .arg .u32 (Ag (wv (!(n==m)) p5))]) else none :=
  Eq.trans (by kernel_rfl)
  (E2 (E2 (Cy (Ll (decide (0≤p6)) (decide (p6<(List.length b:Int)))) (Cy (Cz (E6 a&&Adt (List.getD b (Int.toNat p6) 0))) (Cy (Cz (E6 ([(0:Int)]++p5)&&E6 (singleL a (List.getD b (Int.toNat p6) 0)))) rfl rfl) rfl) rfl) rfl) rfl)
theorem Ac.Mul.ev (N:Nat) (n:Bool) (a:List Int) (m:Bool) (b:List Int):Bv Ac.Mul.E N Tryz.f110 (Am Tryz.f110) [.agg [.bool n,.ints .arg .u32 a],.agg [.bool m,.ints .arg .u32 b]] =
  Ac.Mul.L0 N N n a m b (Ab ((List.length b:Int)-1)) []:=by kernel_rfl
abbrev _root_.Go.Proofs.S1.Ac.Mul.Kn:=A4 Tryz.prog 110 Ac.Mul.spec
theorem Ac.Mul.Ad (hk:Ax Tryz.prog Ac.Mul.Ba) (h:∀ (n:Bool) (a:List Int) (m:Bool) (b:List Int),Ac.Mul.pre [.b n,.l a,.b m,.l b]=true→Bc Ac.Mul.E Tryz.f110 [.agg [.bool n,.ints .arg .u32 a],.agg [.bool m,.ints .arg .u32 b]] (Ac.Mul.out [.b n,.l a,.b m,.l b])):Ac.Mul.Kn :=
  Al (Ay hk _ _ _) Tryz.func110 (by kernel_rfl) (by kernel_rfl) h
def Az.Mul.Ba:List (Nat × Entry):=[(110,Ac.Mul.spec),(109,Az.Of.spec)]
def Az.Mul.E:Env:=Bb (A9 Az.Mul.Ba) (fun _=>false) (fun _=>none) (fun _=>none)
theorem Az.Mul.ev (N:Nat) (n:Bool) (a:List Int) (e:Int) (m:Bool) (b:List Int) (f:Int):Bv Az.Mul.E N Tryz.f41 (Am Tryz.f41) [.agg [.bool n,.ints .arg .u32 a,.int .i64 e],.agg [.bool m,.ints .arg .u32 b,.int .i64 f]]=bif (Xr n a&&Xr m b) then bif (Jt (As (wv n a*wv m b)) (Ag (wv n a*wv m b))&&Rr (Ab (e+f))) then some (.agg [.bool (As (mD (wv (As (wv n a*wv m b)) (Ag (wv n a*wv m b))))),.ints .arg .u32 (Ag (mD (wv (As (wv n a*wv m b)) (Ag (wv n a*wv m b))))),.int .i64 (eD (wv (As (wv n a*wv m b)) (Ag (wv n a*wv m b))) (Ab (e+f)))]) else none else none :=
  Eq.trans (by kernel_rfl)
  (Cy (Cz (Xr n a&&Xr m b)) (Cy (Cz (Jt (As (wv n a*wv m b)) (Ag (wv n a*wv m b))&&Rr (Ab (e+f)))) rfl rfl) rfl)
abbrev _root_.Go.Proofs.S1.Az.Mul.Kn:=A4 Tryz.prog 41 Az.Mul.spec
theorem Az.Mul.Ad (hk:Ax Tryz.prog Az.Mul.Ba) (h:∀ (n:Bool) (a:List Int) (e:Int) (m:Bool) (b:List Int) (f:Int),Az.Mul.pre [.b n,.l a,.i e,.b m,.l b,.i f]=true→Bc Az.Mul.E Tryz.f41 [.agg [.bool n,.ints .arg .u32 a,.int .i64 e],.agg [.bool m,.ints .arg .u32 b,.int .i64 f]] (Az.Mul.out [.b n,.l a,.i e,.b m,.l b,.i f])):Az.Mul.Kn :=
  Al (Ay hk _ _ _) Tryz.func41 (by kernel_rfl) (by kernel_rfl) h
abbrev _root_.Go.Proofs.S1.Ac.plus.own.Kn:Prop:=A4 Tryz.prog 174 Ac.plus.own.spec
theorem _root_.Go.Proofs.S1.Ac.plus.own.call:∀ (args:Array Value) (w:World),(callFunc 174 args).run Tryz.prog w=.ok (.enter 174 args) w:=Ml Tryz.func174 (by kernel_rfl) (show Tryz.f174.body=some (Am Tryz.f174) by kernel_rfl)
theorem _root_.Go.Proofs.S1.Ac.plus.meets {E:Env} (he:Hw Tryz.prog E) {ts:List AT} {pre:List Atom→Bool} {out:List Atom→DV} (h:∀ ats ds,Ep ts ats ds→pre ats=true→∃ fuel d drops,Bv E fuel Tryz.f174 (Am Tryz.f174) ds=some d∧Wk drops d (out ats)):Sw Tryz.prog 174 (entry ts pre out):=Nl he Tryz.func174 (show Tryz.f174.body=some (Am Tryz.f174) by kernel_rfl) h
end EqRefM
open EqRefM
theorem Ta {n:Bool} {l:List Int} (h:Xr n l=true):∃ v,n=As v∧l=Ag v∧Da v.natAbs<33554432:=by
  have h:=Ao.1 h
  obtain ⟨h1,h2,h3⟩:=h
  obtain ⟨e1,e2⟩:=R7 h2 h3
  refine ⟨wv n l,e1,e2,?_⟩
  rw [e2,By] at h1
  exact h1
theorem Ant {v:Int} (h:Da v.natAbs<33554432):Xr (As v) (Ag v)=true :=
  Ao.2 ⟨by rw [By]; exact h,U8 v⟩
theorem Ac.plus.own.known:Ac.plus.own.Kn:=by
  refine ⟨Ac.plus.meets (E:=EqRefA.Ac.plus.E) (Ay (.cons Ac.Hl.known .nil) _ _ _) fun ats dvs he hp=>?_,Ac.plus.own.call⟩
  obtain ⟨a,_,_,rfl,rfl,he0⟩:=he.Amf
  obtain ⟨b,_,_,rfl,rfl,he1⟩:=he0.Amf
  obtain ⟨rfl,rfl⟩:=he1.Xx
  obtain ⟨ha,hb⟩:=Af.1 (show (E6 a&&E6 b)=true from hp)
  refine ⟨max a.length b.length+2,.ints (.own 100005 tW) .u32 (G3 a b),[],?_,.keep _ _ _ _ (List.not_mem_nil)⟩
  rw [EqRefA.Ac.plus.ev]
  exact V8 _ ha hb (max a.length b.length+1) 0 0 _ (by omega) (by omega) (by omega) (by simp)
theorem Xh {x y c:Nat} (hx:x<4294967296) (hy:y<4294967296) (hc:c<4294967296):x*y+c<18446744073709551616:=by
  have:=Nat.mul_le_mul (show x≤4294967295 by omega) (show y≤4294967295 by omega)
  omega
theorem Zi (N:Nat) {a:List Int} {X:Nat} (ha:E6 a=true) (hX:X<4294967296):∀ (k i c F:Nat),i+k=a.length→k<F→c<4294967296 →
    Bq a / 2^(32*i)*X+c=Bq a*X / 2^(32*i) →
    Ac.single.L0 N F a (X:Int) (c:Int) (i:Int) (digits i (Bq a*X))=some (.ints (.own 38 tW) .u32 (singleL a (X:Int))):=by
  obtain ⟨la,ia⟩:=H7 ha
  intro k
  induction k with
  | zero =>
    intro i c F hi hF hc h
    obtain ⟨F,rfl⟩:∃ G,F=G+1:=⟨F-1,by omega⟩
    have t0:decide ((i:Int)<(a.length:Int))=false:=Aq3 (by omega)
    have t1:decide ((digits i (Bq a*X)).length+1≤Gv)=true:=Aqz (by rw [De]; unfold Gv; omega)
    have hz:Bq a / 2^(32*i)=0:=Nat.div_eq_of_lt (by rw [show i=a.length by omega]; exact H0 ia)
    rw [hz,Nat.zero_mul,Nat.zero_add] at h
    rw [Ac.single.At,Ar,t0,Aq2,t1,Aqy,Hz (by omega) (by omega)]
    unfold singleL
    rw [Aq0,Hv,← show i=a.length by omega,← h,Arb hc]
  | succ k ih =>
    intro i c F hi hF hc h
    obtain ⟨F,rfl⟩:∃ G,F=G+1:=⟨F-1,by omega⟩
    have t0:decide ((i:Int)<(a.length:Int))=true:=Aqz (by omega)
    have t2:decide ((0:Int)≤(i:Int))=true:=Aqz (by omega)
    have t1:decide ((digits i (Bq a*X)).length+1≤Gv)=true:=Aqz (by rw [De]; unfold Gv; omega)
    rw [Ac.single.At,Ar,t0,t1,t2]
    simp only [Aqy,Aq4]
    rw [Aq0,Mg ia i]
    have ih:=ih (i+1)
    rw [Jk,Nat.mul_comm 4294967296,← Nat.div_div_eq_div_mul,← Nat.div_div_eq_div_mul,Hv] at ih
    generalize Bq a / 2^(32*i)=x at *
    generalize Bq a*X / 2^(32*i)=z at *
    have hb:=Xh (x:=x%4294967296) (y:=X) (c:=c) (Nat.mod_lt _ (by decide)) hX hc
    have hm:x*X=x / 4294967296*X*4294967296+x%4294967296*X:=by
      rw [Nat.mul_right_comm,← Nat.add_mul]
      congr 1
      omega
    have e1:A3 (A3 (A3 ((x%4294967296:Nat):Int)*A3 (X:Int))+(c:Int))=((x%4294967296*X+c:Nat):Int):=by
      rw [Cg (x:=((x%4294967296:Nat):Int)) (by omega) (by omega),Cg (x:=(X:Int)) (by omega) (by omega),← Ark,Cg (x:=((x%4294967296*X:Nat):Int)) (by omega) (by omega),Cg (by omega) (by omega)]
      omega
    have hlt:(x%4294967296*X+c) / 4294967296<4294967296:=by omega
    rw [e1,Aah,Hb,H2,Hz (by omega) (by omega),Cg (by omega) (by omega),An (by omega) (by omega)]
    rw [hm] at h
    generalize x%4294967296*X=p at *
    generalize x / 4294967296*X=q at *
    have e2:(p+c)%4294967296=z%4294967296:=by omega
    rw [e2]
    exact ih ((p+c) / 4294967296) F (by omega) (by omega) hlt (by omega)
theorem Ac.single.known:Ac.single.Kn:=Ac.single.Ad .nil fun a x hp=>by
  obtain ⟨ha,hx⟩:=Af.1 hp
  have hx:=Ao.1 hx
  obtain ⟨X,rfl⟩:∃ k:Nat,x=k:=⟨x.toNat,by omega⟩
  refine ⟨a.length+1,.ints (.own 38 tW) .u32 (singleL a X),[38],?_,Xn⟩
  rw [Ac.single.ev]
  exact Zi _ ha (by omega) a.length 0 0 _ (by omega) (by omega) (by omega) (by simp)
theorem Tw (a:List Int) (x:Int):Qz (singleL a x):=Ka _ _
theorem Nc (a:List Int) (x:Int):(singleL a x).length=a.length+1:=De _ _
theorem Zj {a:List Int} (ia:Qz a) {X:Nat} (hX:X<4294967296):Bq (singleL a (X:Int))=Bq a*X:=by
  have h:=H0 ia
  unfold singleL
  rw [Ho,Aq0,Arb]
  rw [Jk,Nat.mul_comm 4294967296]
  exact Nat.mul_lt_mul'' h hX
theorem Ahp (N:Nat) {n m:Bool} {a b:List Int} (ha:Qz a) (hb:Qz b) (la:a.length<33554432) (lb:b.length<33554432) :
    ∀ (j F:Nat) (p:List Int),j≤b.length→j<F→Qz p→p.length≤a.length+2*(b.length-j)→Bq p=Bq a*(Bq b / 2^(32*j)) →
    Ac.Mul.L0 N F n a m b ((j:Int)-1) p=some (.agg [.bool (As (Ih (!(n==m)) (Bq a*Bq b))),.ints .arg .u32 (Ag (Ih (!(n==m)) (Bq a*Bq b)))]):=by
  intro j
  induction j with
  | zero =>
    intro F p hj hF ip lp vp
    obtain ⟨F,rfl⟩:∃ G,F=G+1:=⟨F-1,by omega⟩
    have o:E6 p=true:=H6 (by omega) ip
    rw [Nat.mul_zero,Nat.pow_zero,Nat.div_one] at vp
    rw [Ac.Mul.At,D7,Aq3 (by omega),Aq2,o,Aqy]
    unfold wv
    rw [vp]
  | succ j ih =>
    intro F p hj hF ip lp vp
    obtain ⟨F,rfl⟩:∃ G,F=G+1:=⟨F-1,by omega⟩
    have e0:((j+1:Nat):Int)-1=(j:Int):=by omega
    have hX:Bq b / 2^(32*j)%4294967296<4294967296:=Nat.mod_lt _ (by decide)
    have o1:E6 a=true:=H6 (by omega) ha
    have i0:Qz ([(0:Int)]++p):=Aam ip
    have o2:E6 ([(0:Int)]++p)=true:=H6 (by rw [List.length_append]; show 1+p.length<_; omega) i0
    have o3:E6 (singleL a ((Bq b / 2^(32*j)%4294967296:Nat):Int))=true:=H6 (by rw [Nc]; omega) (Tw _ _)
    have o4:Adt ((Bq b / 2^(32*j)%4294967296:Nat):Int)=true:=Ao.2 (by omega)
    have vz:Bq ([(0:Int)]++p)=4294967296*Bq p:=by
      show (0:Int).toNat+4294967296*Bq p=_
      rw [show (0:Int).toNat=0 from rfl,Nat.zero_add]
    have c1:decide (1+p.length≤Gv)=true:=Aqz (by unfold Gv; omega)
    have c2:decide ((j:Int)<(b.length:Int))=true:=Aqz (by omega)
    have c3:decide ((0:Int)≤(j:Int))=true:=Aqz (by omega)
    rw [e0,Ac.Mul.At,D7,c3,Aqy,c1,Aqy,c2,Aq4,Aqy,Aq0,Mg hb j,o1,o4,Aq4,Aqy,o2,o3,Aq4,Aqy,An (by omega) (by omega)]
    refine ih F _ (by omega) (by omega) (T5 _ _) ?_ ?_
    · rw [L8,List.length_append,Nc]
      show max (1+p.length) _+1≤_
      omega
    · rw [V9 i0 (Tw _ _),vz,Zj ha hX,vp,Jk,Nat.mul_comm 4294967296 (2^(32*j)),← Nat.div_div_eq_div_mul,Nat.mul_left_comm,← Nat.mul_add]
      congr 1
      omega
theorem Akf (s t:Bool) (x y:Nat):Ih (!(s==t)) (x*y)=Ih s x*Ih t y:=by
  unfold Ih
  cases s<;>cases t<;>simp [Ark,Int.neg_mul,Int.mul_neg]
theorem Ac.Mul.known:Ac.Mul.Kn:=Ac.Mul.Ad (.cons Ac.Made.known (.cons Ac.plus.own.known (.cons Ac.single.known .nil))) fun n a m b hp=>by
  obtain ⟨h1,h2⟩:=Af.1 hp
  obtain ⟨v,rfl,rfl,hv⟩:=Ta h1
  obtain ⟨w,rfl,rfl,hw⟩:=Ta h2
  refine ⟨(Ag w).length+1,Ac.Mul.out [.b (As v),.l (Ag v),.b (As w),.l (Ag w)],[],?_,W6⟩
  have lv:=By v
  have lw:=By w
  have iw:=Fe w
  have hz:Bq (Ag w) / 2^(32*(Ag w).length)=0:=Nat.div_eq_of_lt (H0 iw)
  rw [Ac.Mul.ev,An (by omega) (by omega)]
  refine (Ahp _ (Fe v) iw (by omega) (by omega) (Ag w).length _ [] (Nat.le_refl _) (by omega) (fun x h=>by cases h) (by show 0≤_; omega) (by rw [hz,Nat.mul_zero]; rfl)).trans ?_
  rw [Akf]
  rfl
theorem Aia (n m:Nat):Da (n*m)≤Da n+Da m:=by
  refine Jy ?_
  rw [Nat.mul_add,Nat.pow_add]
  exact Nat.mul_lt_mul'' (Iy n) (Iy m)
theorem Az.Mul.known:Az.Mul.Kn:=Az.Mul.Ad (.cons Ac.Mul.known (.cons Az.Of.known .nil)) fun n a e m b f hp=>by
  obtain ⟨h1,h2⟩:=Af.1 hp
  obtain ⟨h3,h4⟩:=Af.1 h2
  have he:=Ao.1 h3
  have hf:=Ao.1 h4
  obtain ⟨h5,h6⟩:=Af.1 h1
  obtain ⟨v,rfl,rfl,hv⟩:=Ta h5
  obtain ⟨w,rfl,rfl,hw⟩:=Ta h6
  refine ⟨0,Az.Mul.out [.b (As v),.l (Ag v),.i e,.b (As w),.l (Ag w),.i f],[],?_,wdy⟩
  have hl:=Aia v.natAbs w.natAbs
  have o1:Jt (As (v*w)) (Ag (v*w))=true:=Je (by rw [Int.natAbs_mul]; omega)
  have o2:Rr (e+f)=true:=Ao.2 (by omega)
  rw [Az.Mul.ev,h5,h6,Aq4,Aqy,An (by omega) (by omega)]
  simp only [Fy]
  rw [o1,o2,Aq4,Aqy]
  show _=some (DV.agg [.bool (As (mD (wv (As v) (Ag v)*wv (As w) (Ag w)))),.ints .arg .u32 (Ag (mD (wv (As v) (Ag v)*wv (As w) (Ag w)))),.int .i64 (eD (wv (As v) (Ag v)*wv (As w) (Ag w)) (e+f))])
  rw [Fy,Fy]
namespace EqLaw17
end EqLaw17
open EqLaw17
namespace EqLaw21
def B5.Ce.hint:Nat→Option A5
  | 0=>some { keep:=[0,2,3,4],objs:=[],boxes:=[2,3] }
  | _=>none
def B5.Ce.Ba:List (Nat × Entry):=[(42,Az.Add.spec),(41,Az.Mul.spec),(63,Bd.Value.spec)]
def B5.Ce.E:Env:=Bb (A9 B5.Ce.Ba) (fun _=>false) B5.Ce.hint (fun _=>none)
def B5.Ce.L0 (N M:Nat) (x:List Int):Option DV:=B2 B5.Ce.E N Tryz.f55 (Am Tryz.f55) [1,1,0,1,0] [] M ⟨Fw 24 [(0,.ints .arg .u64 x),(2,.ptr 2 0 0),(3,.ptr 3 0 0),(4,.int .i64 0)],[(2,false,.box [.bool false,.nil,.int .i64 0]),(3,false,.box [.bool false,.nil,.int .i64 0])]⟩
def B5.Ce.L1 (N M:Nat) (x:List Int) (p4:Int) (p3:Bool) (p3_1:List Int) (p3_2:Int):Option DV:=B2 B5.Ce.E N Tryz.f55 (Am Tryz.f55) [1,1,0,1,0] [] M ⟨Fw 24 [(0,.ints .arg .u64 x),(2,.ptr 2 0 0),(3,.ptr 3 0 0),(4,.int .i64 p4)],[(2,false,.box [.bool false,.nil,.int .i64 0]),(3,false,.box [.bool p3,.ints .arg .u32 p3_1,.int .i64 p3_2])]⟩
theorem B5.Ce.At (N M:Nat) (x:List Int):B5.Ce.L0 N (M+1) x=bif (A1 0 (List.length x:Int)) then bif (decide ((0:Int)<(List.length x:Int))) then bif (Ai (List.getD x 0 0)) then bif ((Xr (As (mD (A7 (List.getD x 0 0)))) (Ag (mD (A7 (List.getD x 0 0))))&&Xr (As (mD (A7 (List.getD x 0 0)))) (Ag (mD (A7 (List.getD x 0 0)))))&&(Tb (eD (A7 (List.getD x 0 0)) (Aw (List.getD x 0 0)))&&Tb (eD (A7 (List.getD x 0 0)) (Aw (List.getD x 0 0))))) then bif (((Vl false []&&Vl (As (mD (wv (As (mD (A7 (List.getD x 0 0)))) (Ag (mD (A7 (List.getD x 0 0))))*wv (As (mD (A7 (List.getD x 0 0)))) (Ag (mD (A7 (List.getD x 0 0))))))) (Ag (mD (wv (As (mD (A7 (List.getD x 0 0)))) (Ag (mD (A7 (List.getD x 0 0))))*wv (As (mD (A7 (List.getD x 0 0)))) (Ag (mD (A7 (List.getD x 0 0))))))))&&Tb 0)&&Tb (eD (wv (As (mD (A7 (List.getD x 0 0)))) (Ag (mD (A7 (List.getD x 0 0))))*wv (As (mD (A7 (List.getD x 0 0)))) (Ag (mD (A7 (List.getD x 0 0))))) ((eD (A7 (List.getD x 0 0)) (Aw (List.getD x 0 0)))+(eD (A7 (List.getD x 0 0)) (Aw (List.getD x 0 0)))))) then B5.Ce.L1 N M x 1 (As (Aa9 (wv false []) 0 (wv (As (mD (wv (As (mD (A7 (List.getD x 0 0)))) (Ag (mD (A7 (List.getD x 0 0))))*wv (As (mD (A7 (List.getD x 0 0)))) (Ag (mD (A7 (List.getD x 0 0))))))) (Ag (mD (wv (As (mD (A7 (List.getD x 0 0)))) (Ag (mD (A7 (List.getD x 0 0))))*wv (As (mD (A7 (List.getD x 0 0)))) (Ag (mD (A7 (List.getD x 0 0)))))))) (eD (wv (As (mD (A7 (List.getD x 0 0)))) (Ag (mD (A7 (List.getD x 0 0))))*wv (As (mD (A7 (List.getD x 0 0)))) (Ag (mD (A7 (List.getD x 0 0))))) ((eD (A7 (List.getD x 0 0)) (Aw (List.getD x 0 0)))+(eD (A7 (List.getD x 0 0)) (Aw (List.getD x 0 0))))))) (Ag (Aa9 (wv false []) 0 (wv (As (mD (wv (As (mD (A7 (List.getD x 0 0)))) (Ag (mD (A7 (List.getD x 0 0))))*wv (As (mD (A7 (List.getD x 0 0)))) (Ag (mD (A7 (List.getD x 0 0))))))) (Ag (mD (wv (As (mD (A7 (List.getD x 0 0)))) (Ag (mD (A7 (List.getD x 0 0))))*wv (As (mD (A7 (List.getD x 0 0)))) (Ag (mD (A7 (List.getD x 0 0)))))))) (eD (wv (As (mD (A7 (List.getD x 0 0)))) (Ag (mD (A7 (List.getD x 0 0))))*wv (As (mD (A7 (List.getD x 0 0)))) (Ag (mD (A7 (List.getD x 0 0))))) ((eD (A7 (List.getD x 0 0)) (Aw (List.getD x 0 0)))+(eD (A7 (List.getD x 0 0)) (Aw (List.getD x 0 0))))))) (Ajo (wv false []) 0 (wv (As (mD (wv (As (mD (A7 (List.getD x 0 0)))) (Ag (mD (A7 (List.getD x 0 0))))*wv (As (mD (A7 (List.getD x 0 0)))) (Ag (mD (A7 (List.getD x 0 0))))))) (Ag (mD (wv (As (mD (A7 (List.getD x 0 0)))) (Ag (mD (A7 (List.getD x 0 0))))*wv (As (mD (A7 (List.getD x 0 0)))) (Ag (mD (A7 (List.getD x 0 0)))))))) (eD (wv (As (mD (A7 (List.getD x 0 0)))) (Ag (mD (A7 (List.getD x 0 0))))*wv (As (mD (A7 (List.getD x 0 0)))) (Ag (mD (A7 (List.getD x 0 0))))) ((eD (A7 (List.getD x 0 0)) (Aw (List.getD x 0 0)))+(eD (A7 (List.getD x 0 0)) (Aw (List.getD x 0 0)))))) else none else none else none else none else some (.agg [.bool false,.nil,.int .i64 0]) :=
  Eq.trans (by kernel_rfl)
  (E2 (E2 (E2 (Cy (Cz ((Xr (As (mD (A7 (List.getD x 0 0)))) (Ag (mD (A7 (List.getD x 0 0))))&&Xr (As (mD (A7 (List.getD x 0 0)))) (Ag (mD (A7 (List.getD x 0 0)))))&&(Tb (eD (A7 (List.getD x 0 0)) (Aw (List.getD x 0 0)))&&Tb (eD (A7 (List.getD x 0 0)) (Aw (List.getD x 0 0)))))) (Cy (Cz (((Vl false []&&Vl (As (mD (wv (As (mD (A7 (List.getD x 0 0)))) (Ag (mD (A7 (List.getD x 0 0))))*wv (As (mD (A7 (List.getD x 0 0)))) (Ag (mD (A7 (List.getD x 0 0))))))) (Ag (mD (wv (As (mD (A7 (List.getD x 0 0)))) (Ag (mD (A7 (List.getD x 0 0))))*wv (As (mD (A7 (List.getD x 0 0)))) (Ag (mD (A7 (List.getD x 0 0))))))))&&Tb 0)&&Tb (eD (wv (As (mD (A7 (List.getD x 0 0)))) (Ag (mD (A7 (List.getD x 0 0))))*wv (As (mD (A7 (List.getD x 0 0)))) (Ag (mD (A7 (List.getD x 0 0))))) ((eD (A7 (List.getD x 0 0)) (Aw (List.getD x 0 0)))+(eD (A7 (List.getD x 0 0)) (Aw (List.getD x 0 0))))))) rfl rfl) rfl) rfl) rfl) rfl)
theorem B5.Ce.Cb (N M:Nat) (x:List Int) (p4:Int) (p3:Bool) (p3_1:List Int) (p3_2:Int):B5.Ce.L1 N (M+1) x p4 p3 p3_1 p3_2=bif (A1 p4 (List.length x:Int)) then bif ((decide (0≤p4))&&(decide (p4<(List.length x:Int)))) then bif (Ai (List.getD x (Int.toNat p4) 0)) then bif ((Xr (As (mD (A7 (List.getD x (Int.toNat p4) 0)))) (Ag (mD (A7 (List.getD x (Int.toNat p4) 0))))&&Xr (As (mD (A7 (List.getD x (Int.toNat p4) 0)))) (Ag (mD (A7 (List.getD x (Int.toNat p4) 0)))))&&(Tb (eD (A7 (List.getD x (Int.toNat p4) 0)) (Aw (List.getD x (Int.toNat p4) 0)))&&Tb (eD (A7 (List.getD x (Int.toNat p4) 0)) (Aw (List.getD x (Int.toNat p4) 0))))) then bif (((Vl p3 p3_1&&Vl (As (mD (wv (As (mD (A7 (List.getD x (Int.toNat p4) 0)))) (Ag (mD (A7 (List.getD x (Int.toNat p4) 0))))*wv (As (mD (A7 (List.getD x (Int.toNat p4) 0)))) (Ag (mD (A7 (List.getD x (Int.toNat p4) 0))))))) (Ag (mD (wv (As (mD (A7 (List.getD x (Int.toNat p4) 0)))) (Ag (mD (A7 (List.getD x (Int.toNat p4) 0))))*wv (As (mD (A7 (List.getD x (Int.toNat p4) 0)))) (Ag (mD (A7 (List.getD x (Int.toNat p4) 0))))))))&&Tb p3_2)&&Tb (eD (wv (As (mD (A7 (List.getD x (Int.toNat p4) 0)))) (Ag (mD (A7 (List.getD x (Int.toNat p4) 0))))*wv (As (mD (A7 (List.getD x (Int.toNat p4) 0)))) (Ag (mD (A7 (List.getD x (Int.toNat p4) 0))))) ((eD (A7 (List.getD x (Int.toNat p4) 0)) (Aw (List.getD x (Int.toNat p4) 0)))+(eD (A7 (List.getD x (Int.toNat p4) 0)) (Aw (List.getD x (Int.toNat p4) 0)))))) then B5.Ce.L1 N M x (Ab (p4+1)) (As (Aa9 (wv p3 p3_1) p3_2 (wv (As (mD (wv (As (mD (A7 (List.getD x (Int.toNat p4) 0)))) (Ag (mD (A7 (List.getD x (Int.toNat p4) 0))))*wv (As (mD (A7 (List.getD x (Int.toNat p4) 0)))) (Ag (mD (A7 (List.getD x (Int.toNat p4) 0))))))) (Ag (mD (wv (As (mD (A7 (List.getD x (Int.toNat p4) 0)))) (Ag (mD (A7 (List.getD x (Int.toNat p4) 0))))*wv (As (mD (A7 (List.getD x (Int.toNat p4) 0)))) (Ag (mD (A7 (List.getD x (Int.toNat p4) 0)))))))) (eD (wv (As (mD (A7 (List.getD x (Int.toNat p4) 0)))) (Ag (mD (A7 (List.getD x (Int.toNat p4) 0))))*wv (As (mD (A7 (List.getD x (Int.toNat p4) 0)))) (Ag (mD (A7 (List.getD x (Int.toNat p4) 0))))) ((eD (A7 (List.getD x (Int.toNat p4) 0)) (Aw (List.getD x (Int.toNat p4) 0)))+(eD (A7 (List.getD x (Int.toNat p4) 0)) (Aw (List.getD x (Int.toNat p4) 0))))))) (Ag (Aa9 (wv p3 p3_1) p3_2 (wv (As (mD (wv (As (mD (A7 (List.getD x (Int.toNat p4) 0)))) (Ag (mD (A7 (List.getD x (Int.toNat p4) 0))))*wv (As (mD (A7 (List.getD x (Int.toNat p4) 0)))) (Ag (mD (A7 (List.getD x (Int.toNat p4) 0))))))) (Ag (mD (wv (As (mD (A7 (List.getD x (Int.toNat p4) 0)))) (Ag (mD (A7 (List.getD x (Int.toNat p4) 0))))*wv (As (mD (A7 (List.getD x (Int.toNat p4) 0)))) (Ag (mD (A7 (List.getD x (Int.toNat p4) 0)))))))) (eD (wv (As (mD (A7 (List.getD x (Int.toNat p4) 0)))) (Ag (mD (A7 (List.getD x (Int.toNat p4) 0))))*wv (As (mD (A7 (List.getD x (Int.toNat p4) 0)))) (Ag (mD (A7 (List.getD x (Int.toNat p4) 0))))) ((eD (A7 (List.getD x (Int.toNat p4) 0)) (Aw (List.getD x (Int.toNat p4) 0)))+(eD (A7 (List.getD x (Int.toNat p4) 0)) (Aw (List.getD x (Int.toNat p4) 0))))))) (Ajo (wv p3 p3_1) p3_2 (wv (As (mD (wv (As (mD (A7 (List.getD x (Int.toNat p4) 0)))) (Ag (mD (A7 (List.getD x (Int.toNat p4) 0))))*wv (As (mD (A7 (List.getD x (Int.toNat p4) 0)))) (Ag (mD (A7 (List.getD x (Int.toNat p4) 0))))))) (Ag (mD (wv (As (mD (A7 (List.getD x (Int.toNat p4) 0)))) (Ag (mD (A7 (List.getD x (Int.toNat p4) 0))))*wv (As (mD (A7 (List.getD x (Int.toNat p4) 0)))) (Ag (mD (A7 (List.getD x (Int.toNat p4) 0)))))))) (eD (wv (As (mD (A7 (List.getD x (Int.toNat p4) 0)))) (Ag (mD (A7 (List.getD x (Int.toNat p4) 0))))*wv (As (mD (A7 (List.getD x (Int.toNat p4) 0)))) (Ag (mD (A7 (List.getD x (Int.toNat p4) 0))))) ((eD (A7 (List.getD x (Int.toNat p4) 0)) (Aw (List.getD x (Int.toNat p4) 0)))+(eD (A7 (List.getD x (Int.toNat p4) 0)) (Aw (List.getD x (Int.toNat p4) 0)))))) else none else none else none else none else some (.agg [.bool p3,.ints .arg .u32 p3_1,.int .i64 p3_2]) :=
  Eq.trans (by kernel_rfl)
  (E2 (E2 (E2 (Cy (Cz ((Xr (As (mD (A7 (List.getD x (Int.toNat p4) 0)))) (Ag (mD (A7 (List.getD x (Int.toNat p4) 0))))&&Xr (As (mD (A7 (List.getD x (Int.toNat p4) 0)))) (Ag (mD (A7 (List.getD x (Int.toNat p4) 0)))))&&(Tb (eD (A7 (List.getD x (Int.toNat p4) 0)) (Aw (List.getD x (Int.toNat p4) 0)))&&Tb (eD (A7 (List.getD x (Int.toNat p4) 0)) (Aw (List.getD x (Int.toNat p4) 0)))))) (Cy (Cz (((Vl p3 p3_1&&Vl (As (mD (wv (As (mD (A7 (List.getD x (Int.toNat p4) 0)))) (Ag (mD (A7 (List.getD x (Int.toNat p4) 0))))*wv (As (mD (A7 (List.getD x (Int.toNat p4) 0)))) (Ag (mD (A7 (List.getD x (Int.toNat p4) 0))))))) (Ag (mD (wv (As (mD (A7 (List.getD x (Int.toNat p4) 0)))) (Ag (mD (A7 (List.getD x (Int.toNat p4) 0))))*wv (As (mD (A7 (List.getD x (Int.toNat p4) 0)))) (Ag (mD (A7 (List.getD x (Int.toNat p4) 0))))))))&&Tb p3_2)&&Tb (eD (wv (As (mD (A7 (List.getD x (Int.toNat p4) 0)))) (Ag (mD (A7 (List.getD x (Int.toNat p4) 0))))*wv (As (mD (A7 (List.getD x (Int.toNat p4) 0)))) (Ag (mD (A7 (List.getD x (Int.toNat p4) 0))))) ((eD (A7 (List.getD x (Int.toNat p4) 0)) (Aw (List.getD x (Int.toNat p4) 0)))+(eD (A7 (List.getD x (Int.toNat p4) 0)) (Aw (List.getD x (Int.toNat p4) 0))))))) rfl rfl) rfl) rfl) rfl) rfl)
theorem B5.Ce.ev (N:Nat) (x:List Int):Bv B5.Ce.E N Tryz.f55 (Am Tryz.f55) [.ints .arg .u64 x] =
  B5.Ce.L0 N N x:=by kernel_rfl
abbrev _root_.Go.Proofs.S1.B5.Ce.Kn:=A4 Tryz.prog 55 B5.Ce.spec
theorem B5.Ce.Ad (hk:Ax Tryz.prog B5.Ce.Ba) (h:∀ (x:List Int),B5.Ce.pre [.l x]=true→Bc B5.Ce.E Tryz.f55 [.ints .arg .u64 x] (B5.Ce.out [.l x])):B5.Ce.Kn :=
  Al (Ay hk _ _ _) Tryz.func55 (by kernel_rfl) (by kernel_rfl) h
def Br.one.Ba:List (Nat × Entry):=[]
def Br.one.E:Env:=Bb (A9 Br.one.Ba) (fun _=>false) (fun _=>none) (fun _=>none)
theorem Br.one.ev (N:Nat) (b:Int):Bv Br.one.E N Tryz.f134 (Am Tryz.f134) [.int .u64 b]=some (.agg [.int .i64 1,.int .i64 1,.ints (.own 4 37) .u64 [b]]):=by kernel_rfl
abbrev _root_.Go.Proofs.S1.Br.one.Kn:=A4 Tryz.prog 134 Br.one.spec
theorem Br.one.Ad (hk:Ax Tryz.prog Br.one.Ba) (h:∀ (b:Int),Br.one.pre [.i b]=true→Bc Br.one.E Tryz.f134 [.int .u64 b] (Br.one.out [.i b])):Br.one.Kn :=
  Al (Ay hk _ _ _) Tryz.func134 (by kernel_rfl) (by kernel_rfl) h
def Br.Gb.Ba:List (Nat × Entry):=[(60,A2.Solve.spec),(134,Br.one.spec),(54,Az.Dw.spec),(55,B5.Ce.spec)]
def Br.Gb.E:Env:=Bb (A9 Br.Gb.Ba) (fun _=>false) (fun _=>none) (fun _=>none)
theorem Br.Gb.ev (N:Nat):Bv Br.Gb.E N Tryz.f59 (Am Tryz.f59) []=bif (N1 [] ([(4607182418800017408:Int)]) ([(4613937818241073152:Int)])) then bif ((!((((gX 1 0 [] 1 1 ([(4607182418800017408:Int)]) 1 1 ([(4613937818241073152:Int)])).2.2.2)==(0:Int))&&((List.length ((gY 1 0 [] 1 1 ([(4607182418800017408:Int)]) 1 1 ([(4613937818241073152:Int)])).2.2.1):Int)==(1:Int))))||(Cu ((gY 1 0 [] 1 1 ([(4607182418800017408:Int)]) 1 1 ([(4613937818241073152:Int)])).2.2.1)&&Cn (List.length ((gY 1 0 [] 1 1 ([(4607182418800017408:Int)]) 1 1 ([(4613937818241073152:Int)])).2.2.1)=1))) then bif ((((gX 1 0 [] 1 1 ([(4607182418800017408:Int)]) 1 1 ([(4613937818241073152:Int)])).2.2.2)==(0:Int))&&((List.length ((gY 1 0 [] 1 1 ([(4607182418800017408:Int)]) 1 1 ([(4613937818241073152:Int)])).2.2.1):Int)==(1:Int))) then bif (((((gX 1 0 [] 1 1 ([(4607182418800017408:Int)]) 1 1 ([(4613937818241073152:Int)])).2.2.2)==(0:Int))&&((List.length ((gY 1 0 [] 1 1 ([(4607182418800017408:Int)]) 1 1 ([(4613937818241073152:Int)])).2.2.1):Int)==(1:Int)))&&(Cu [(4613937818241073152:Int)]&&Cn (List.length [(4613937818241073152:Int)]=1))) then bif ((!((((gX 1 0 [] 1 1 ([(4607182418800017408:Int)]) 1 1 ([(4613937818241073152:Int)])).2.2.2)==(0:Int))&&((List.length ((gY 1 0 [] 1 1 ([(4607182418800017408:Int)]) 1 1 ([(4613937818241073152:Int)])).2.2.1):Int)==(1:Int))))||(Jt (As (sqM (List.getD ((gY 1 0 [] 1 1 ([(4607182418800017408:Int)]) 1 1 ([(4613937818241073152:Int)])).2.2.1) 0 0))) (Ag (sqM (List.getD ((gY 1 0 [] 1 1 ([(4607182418800017408:Int)]) 1 1 ([(4613937818241073152:Int)])).2.2.1) 0 0)))&&Jt (As (sqM (List.getD [(4613937818241073152:Int)] 0 0))) (Ag (sqM (List.getD [(4613937818241073152:Int)] 0 0))))) then some (.bool (bif (bif (((gX 1 0 [] 1 1 ([(4607182418800017408:Int)]) 1 1 ([(4613937818241073152:Int)])).2.2.2)==(0:Int)) then ((List.length ((gY 1 0 [] 1 1 ([(4607182418800017408:Int)]) 1 1 ([(4613937818241073152:Int)])).2.2.1):Int)==(1:Int)) else false) then (((decide ((sqE (List.getD ((gY 1 0 [] 1 1 ([(4607182418800017408:Int)]) 1 1 ([(4613937818241073152:Int)])).2.2.1) 0 0))=(sqE (List.getD [(4613937818241073152:Int)] 0 0))))&&Ty (wv (As (sqM (List.getD ((gY 1 0 [] 1 1 ([(4607182418800017408:Int)]) 1 1 ([(4613937818241073152:Int)])).2.2.1) 0 0))) (Ag (sqM (List.getD ((gY 1 0 [] 1 1 ([(4607182418800017408:Int)]) 1 1 ([(4613937818241073152:Int)])).2.2.1) 0 0)))) (wv (As (sqM (List.getD [(4613937818241073152:Int)] 0 0))) (Ag (sqM (List.getD [(4613937818241073152:Int)] 0 0)))))) else false)) else none else none else none else none else none :=
  Eq.trans (by kernel_rfl)
  (E2 (Ap (Ot (((gX 1 0 [] 1 1 ([(4607182418800017408:Int)]) 1 1 ([(4613937818241073152:Int)])).2.2.2)==(0:Int))) (Ap (Ks (((gX 1 0 [] 1 1 ([(4607182418800017408:Int)]) 1 1 ([(4613937818241073152:Int)])).2.2.2)==(0:Int))) (Ap (Ks (((gX 1 0 [] 1 1 ([(4607182418800017408:Int)]) 1 1 ([(4613937818241073152:Int)])).2.2.2)==(0:Int))) (Ap (Ks (((gX 1 0 [] 1 1 ([(4607182418800017408:Int)]) 1 1 ([(4613937818241073152:Int)])).2.2.2)==(0:Int))) (Ap (Sc (((gX 1 0 [] 1 1 ([(4607182418800017408:Int)]) 1 1 ([(4613937818241073152:Int)])).2.2.2)==(0:Int))) (Ap (Apk (((gX 1 0 [] 1 1 ([(4607182418800017408:Int)]) 1 1 ([(4613937818241073152:Int)])).2.2.2)==(0:Int)) ((List.length ((gY 1 0 [] 1 1 ([(4607182418800017408:Int)]) 1 1 ([(4613937818241073152:Int)])).2.2.1):Int)==(1:Int))) (Ap (Am3 (((gX 1 0 [] 1 1 ([(4607182418800017408:Int)]) 1 1 ([(4613937818241073152:Int)])).2.2.2)==(0:Int)) ((List.length ((gY 1 0 [] 1 1 ([(4607182418800017408:Int)]) 1 1 ([(4613937818241073152:Int)])).2.2.1):Int)==(1:Int))) (Cy (tt95 (((gX 1 0 [] 1 1 ([(4607182418800017408:Int)]) 1 1 ([(4613937818241073152:Int)])).2.2.2)==(0:Int)) ((List.length ((gY 1 0 [] 1 1 ([(4607182418800017408:Int)]) 1 1 ([(4613937818241073152:Int)])).2.2.1):Int)==(1:Int)) (Cu ((gY 1 0 [] 1 1 ([(4607182418800017408:Int)]) 1 1 ([(4613937818241073152:Int)])).2.2.1)&&Cn (List.length ((gY 1 0 [] 1 1 ([(4607182418800017408:Int)]) 1 1 ([(4613937818241073152:Int)])).2.2.1)=1))) (Cy (Ap4 (((gX 1 0 [] 1 1 ([(4607182418800017408:Int)]) 1 1 ([(4613937818241073152:Int)])).2.2.2)==(0:Int)) ((List.length ((gY 1 0 [] 1 1 ([(4607182418800017408:Int)]) 1 1 ([(4613937818241073152:Int)])).2.2.1):Int)==(1:Int))) (Cy (Ap5 (((gX 1 0 [] 1 1 ([(4607182418800017408:Int)]) 1 1 ([(4613937818241073152:Int)])).2.2.2)==(0:Int)) ((List.length ((gY 1 0 [] 1 1 ([(4607182418800017408:Int)]) 1 1 ([(4613937818241073152:Int)])).2.2.1):Int)==(1:Int)) (Cu [(4613937818241073152:Int)]&&Cn (List.length [(4613937818241073152:Int)]=1))) (Cy (tt78 (((gX 1 0 [] 1 1 ([(4607182418800017408:Int)]) 1 1 ([(4613937818241073152:Int)])).2.2.2)==(0:Int)) ((List.length ((gY 1 0 [] 1 1 ([(4607182418800017408:Int)]) 1 1 ([(4613937818241073152:Int)])).2.2.1):Int)==(1:Int)) (Jt (As (sqM (List.getD ((gY 1 0 [] 1 1 ([(4607182418800017408:Int)]) 1 1 ([(4613937818241073152:Int)])).2.2.1) 0 0))) (Ag (sqM (List.getD ((gY 1 0 [] 1 1 ([(4607182418800017408:Int)]) 1 1 ([(4613937818241073152:Int)])).2.2.1) 0 0)))&&Jt (As (sqM (List.getD [(4613937818241073152:Int)] 0 0))) (Ag (sqM (List.getD [(4613937818241073152:Int)] 0 0))))) (Ap (Apl (((gX 1 0 [] 1 1 ([(4607182418800017408:Int)]) 1 1 ([(4613937818241073152:Int)])).2.2.2)==(0:Int)) ((List.length ((gY 1 0 [] 1 1 ([(4607182418800017408:Int)]) 1 1 ([(4613937818241073152:Int)])).2.2.1):Int)==(1:Int))) rfl) rfl) rfl) rfl) rfl)))))))) rfl)
abbrev _root_.Go.Proofs.S1.Br.Gb.Kn:=A4 Tryz.prog 59 Br.Gb.spec
theorem Br.Gb.Ad (hk:Ax Tryz.prog Br.Gb.Ba) (h:∀ (_:Unit),Br.Gb.pre []=true→Bc Br.Gb.E Tryz.f59 [] (Br.Gb.out [])):Br.Gb.Kn :=
  Al (Ay hk _ _ _) Tryz.func59 (by kernel_rfl) (by kernel_rfl) (h ())
def Br.task.Ba:List (Nat × Entry):=[]
def Br.task.E:Env:=Bb (A9 Br.task.Ba) (fun _=>false) (fun _=>none) (fun _=>none)
theorem Br.task.ev (N:Nat) (r c:Int) (l:List Int) (p q:Int) (m:List Int) (u v:Int) (h:List Int):Bv Br.task.E N Tryz.f58 (Am Tryz.f58) [.agg [.int .i64 r,.int .i64 c,.ints .arg .u64 l,.int .i64 p,.int .i64 q,.ints .arg .u64 m,.int .i64 u,.int .i64 v,.ints .arg .u64 h]]=some (.agg [.int .i64 r,.int .i64 c,.ints .arg .u64 l,.int .i64 p,.int .i64 q,.ints .arg .u64 m,.int .i64 u,.int .i64 v,.ints .arg .u64 h]):=by kernel_rfl
abbrev _root_.Go.Proofs.S1.Br.task.Kn:=A4 Tryz.prog 58 Br.task.spec
theorem Br.task.Ad (hk:Ax Tryz.prog Br.task.Ba) (h:∀ (r c:Int) (l:List Int) (p q:Int) (m:List Int) (u v:Int) (h:List Int),Br.task.pre [.i r,.i c,.l l,.i p,.i q,.l m,.i u,.i v,.l h]=true→Bc Br.task.E Tryz.f58 [.agg [.int .i64 r,.int .i64 c,.ints .arg .u64 l,.int .i64 p,.int .i64 q,.ints .arg .u64 m,.int .i64 u,.int .i64 v,.ints .arg .u64 h]] (Br.task.out [.i r,.i c,.l l,.i p,.i q,.l m,.i u,.i v,.l h])):Br.task.Kn :=
  Al (Ay hk _ _ _) Tryz.func58 (by kernel_rfl) (by kernel_rfl) h
def Br.Cm.Ba:List (Nat × Entry):=[(56,A2.Check.spec),(59,Br.Gb.spec),(58,Br.task.spec),(57,Fz.Check.spec)]
def Br.Cm.E:Env:=Bb (A9 Br.Cm.Ba) (fun _=>false) (fun _=>none) (fun _=>none)
theorem Br.Cm.ev (N:Nat) (r c:Int) (l:List Int) (p q:Int) (m:List Int) (u v:Int) (h:List Int):Bv Br.Cm.E N Tryz.f13 (Am Tryz.f13) [.agg [.int .i64 r,.int .i64 c,.ints .arg .u64 l,.int .i64 p,.int .i64 q,.ints .arg .u64 m,.int .i64 u,.int .i64 v,.ints .arg .u64 h]]=bif (N1 l m h) then bif (N1 l m h) then some (.bool (bif ((F8 r c l p q m u v h)==(F8 r c l p q m u v h)) then true else false)) else none else none :=
  Eq.trans (by kernel_rfl)
  (Cy (Cz (N1 l m h)) (Cy (Cz (N1 l m h)) (Ap (Ap2 ((F8 r c l p q m u v h)==(F8 r c l p q m u v h))) (Ap (Ap3 ((F8 r c l p q m u v h)==(F8 r c l p q m u v h))) rfl)) rfl) rfl)
abbrev _root_.Go.Proofs.S1.Br.Cm.Kn:=A4 Tryz.prog 13 Br.Cm.spec
theorem Br.Cm.Ad (hk:Ax Tryz.prog Br.Cm.Ba) (h:∀ (r c:Int) (l:List Int) (p q:Int) (m:List Int) (u v:Int) (h:List Int),Br.Cm.pre [.i r,.i c,.l l,.i p,.i q,.l m,.i u,.i v,.l h]=true→Bc Br.Cm.E Tryz.f13 [.agg [.int .i64 r,.int .i64 c,.ints .arg .u64 l,.int .i64 p,.int .i64 q,.ints .arg .u64 m,.int .i64 u,.int .i64 v,.ints .arg .u64 h]] (Br.Cm.out [.i r,.i c,.l l,.i p,.i q,.l m,.i u,.i v,.l h])):Br.Cm.Kn :=
  Al (Ay hk _ _ _) Tryz.func13 (by kernel_rfl) (by kernel_rfl) h
end EqLaw21
open EqLaw21
theorem Ai0 {v e:Int} {t:Nat} (h:v.natAbs<2^t) (h0:0<t) (he:-3000≤e∧e≤3000) (ht:t≤300):Tb (eD v e)=true:=by
  refine Ao.2 ?_
  unfold eD
  by_cases k:v=0
  · rw [if_pos k]; omega
  · rw [if_neg k]
    have:=To (m:=v.natAbs) (t:=t) h (by omega)
    omega
theorem Agy (b:Nat):(mD (A7 (b:Int))*mD (A7 (b:Int))).natAbs<2^106:=by
  have hm:=Ek b
  have ha:=W7 b
  have h1:(mD (A7 (b:Int))).natAbs<2^53:=by
    have:=Ru (A7 (b:Int))
    omega
  rw [Int.natAbs_mul]
  exact Nat.lt_of_lt_of_le (Nat.mul_lt_mul'' h1 h1) (by decide)
theorem B5.Ce.known:B5.Ce.Kn:=B5.Ce.Ad (.cons Az.Add.known (.cons Az.Mul.known (.cons Bd.Value.known .nil))) fun x hp=>by
  obtain ⟨h1,h2⟩:=Af.1 (show (Cu x&&Cn (List.length x=1))=true from hp)
  obtain ⟨b,rfl⟩:=List.length_eq_one_iff.1 (Ao.1 h2)
  have hb:Ai b=true:=Ao.1 (W1 h1) b List.mem_cons_self
  obtain ⟨n,rfl,hn⟩:=Bt hb
  obtain ⟨v1,v2,v3⟩:=Amu n
  have pe:=Eb n
  have hv:=W7 n
  have hm:=Ek n
  have hl:Da (mD (A7 (n:Int))).natAbs<3:=Nat.lt_of_le_of_lt (J7 (Ru _)) v1
  have oM:Xr (As (mD (A7 (n:Int)))) (Ag (mD (A7 (n:Int))))=true:=Ant (by omega)
  have oE:Tb (eD (A7 (n:Int)) (Aw (n:Int)))=true:=Ao.2 ⟨v2,v3⟩
  have hs:=Agy n
  have hl2:Da (mD (mD (A7 (n:Int))*mD (A7 (n:Int)))).natAbs<5:=Nat.lt_of_le_of_lt (J7 (Ru _)) (X7 (k:=4) (Nat.lt_of_lt_of_le hs (by decide)) (by omega))
  have oV:Vl (As (mD (mD (A7 (n:Int))*mD (A7 (n:Int))))) (Ag (mD (mD (A7 (n:Int))*mD (A7 (n:Int)))))=true:=Ahh (by omega)
  have ee:-1074≤eD (A7 (n:Int)) (Aw (n:Int))∨eD (A7 (n:Int)) (Aw (n:Int))=0:=by
    by_cases k:A7 (n:Int)=0
    · right; unfold eD; rw [if_pos k]
    · left; exact Aqp pe.1 k
  have e2:eD (A7 (n:Int)) (Aw (n:Int))≤1025:=by
    unfold eD
    by_cases k:A7 (n:Int)=0
    · rw [if_pos k]; omega
    · rw [if_neg k]
      have:=To (m:=(A7 (n:Int)).natAbs) (t:=53) (by rw [hv]; exact hm) (by omega)
      have:Aw (n:Int)≤972:=pe.2
      omega
  have oE2:Tb (eD (mD (A7 (n:Int))*mD (A7 (n:Int))) (eD (A7 (n:Int)) (Aw (n:Int))+eD (A7 (n:Int)) (Aw (n:Int))))=true:=Ai0 hs (by decide) (by omega) (by decide)
  have z:wv false []=0:=by decide
  refine ⟨2,B5.Ce.out [.l [(n:Int)]],[],?_,Wk.Ig (.cons .bool (.cons .Aa3 (.cons .int .nil)))⟩
  rw [B5.Ce.ev,B5.Ce.At,Ar]
  simp only [Fy,List.getD_cons_zero,List.length_singleton]
  rw [Aqz (show (0:Int)<((1:Nat):Int) by decide),Aqy,Aqy,hb,Aqy,oM,oE,Aq4,Aq4,Aqy,oV,oE2,show Vl false []=true from Ahh (v:=0) (by decide),show Tb 0=true from Ao.2 (by decide),Aq4,Aq4,Aq4,Aqy,B5.Ce.Cb,Ar,Aq3 (by simp),Aq2]
  rfl
theorem Br.one.known:Br.one.Kn:=Br.one.Ad .nil fun b _ =>
  ⟨0,_,[4],Br.one.ev 0 b,Abf (List.mem_singleton.2 rfl)⟩
theorem Br.task.known:Br.task.Kn:=Br.task.Ad .nil fun r c l p q m u v h _ =>
  ⟨0,_,[],Br.task.ev 0 r c l p q m u v h,Wk.Ig (.cons .int (.cons .int (.cons .Aa3 (.cons .int (.cons .int (.cons .Aa3 (.cons .int (.cons .int (.cons .Aa3 .nil)))))))))⟩
theorem An2:gX 1 0 [] 1 1 [4607182418800017408] 1 1 [4613937818241073152]=(0,1,[],0):=by decide +kernel
theorem An1:gY 1 0 [] 1 1 [4607182418800017408] 1 1 [4613937818241073152]=(1,1,[4613937818241073152],0):=by decide +kernel
theorem Aig {x:Int} (h:decide (0≤x∧x<18446744073709551616)=true):Ah [x]=true:=Ao.2 fun y hy=>by
  rw [List.mem_singleton.1 hy]; exact Ao.2 (of_decide_eq_true h)
theorem Anr {x:Int} (h:decide (0≤x∧x<18446744073709551616)=true):Cu [x]=true:=Ao.2 ⟨by simp,fun y hy=>by
  rw [List.mem_singleton.1 hy]; exact Ao.2 (of_decide_eq_true h)⟩
theorem Agx:sqM 4613937818241073152=9:=by decide +kernel
theorem Br.Gb.known:Br.Gb.Kn:=Br.Gb.Ad (.cons A2.Solve.known (.cons Br.one.known (.cons Az.Dw.known (.cons B5.Ce.known .nil)))) fun _ _=>by
  have a1:N1 [] [4607182418800017408] [4613937818241073152]=true:=by
    unfold N1
    rw [Aig (by decide),Aig (x:=4613937818241073152) (by decide),En]; rfl
  have o1:Cu [4613937818241073152]=true:=Anr (by decide)
  have o2:Cn (List.length [(4613937818241073152:Int)]=1)=true:=Ao.2 rfl
  have o3:Jt (As 9) (Ag 9)=true:=Je (by decide)
  refine ⟨0,Br.Gb.out [],[],?_,.bool⟩
  rw [Br.Gb.ev,a1,An2,An1]
  simp only [List.getD_cons_zero,Agx,Fy,o1,o2,o3]
  rfl
theorem Br.Cm.known:Br.Cm.Kn:=Br.Cm.Ad (.cons A2.Check.known (.cons Br.Gb.known (.cons Br.task.known (.cons Fz.Check.known .nil)))) fun r c l p q m u v h hp=>by
  refine ⟨0,Br.Cm.out [.i r,.i c,.l l,.i p,.i q,.l m,.i u,.i v,.l h],[],?_,.bool⟩
  show _=some (DV.bool true)
  rw [Br.Cm.ev,show N1 l m h=true from hp,beq_self_eq_true]
  rfl
end Go.Proofs.S1
end
