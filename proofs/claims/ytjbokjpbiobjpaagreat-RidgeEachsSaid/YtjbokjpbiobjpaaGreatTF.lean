/- A verified evaluator of the program's form and its use for this seat: TriL, HouW, LseW, GgW, RidW, S1Specs, S1Tt, S1EqSoft, S1PSoft, S1EqRefD, S1PRefD, S1EqRefA. -/
import Derived.Test.YtjbokjpbiobjpaaGreatTE
set_option linter.unusedVariables false
set_option linter.unusedSimpArgs false
noncomputable section
namespace Go.Rnd
open Go.Den
theorem Arr {a b:Nat}:(Adh a b).1<2^64:=by
  have h1:Eb<2^63:=by decide
  have hs:∀ (s:Bool) {r:Nat},r<2^63→Bl s r<2^64:=by
    intro s r h
    unfold Bl
    cases s
    · rw [if_neg (by decide)]; omega
    · rw [if_pos rfl]; omega
  have hN:P8<2^64:=by decide
  unfold Adh
  by_cases c1:Am a=4∨Am b=4
  · rw [if_pos c1]; exact hN
  rw [if_neg c1]
  by_cases c2:Am a=Am b∧(Am a=3∨Am a=0)
  · rw [if_pos c2]; exact hN
  rw [if_neg c2]
  by_cases c3:Am a=3
  · rw [if_pos c3]; exact hs _ h1
  rw [if_neg c3]
  by_cases c4:Am b=3∨Am a=0
  · rw [if_pos c4]; exact hs _ (by decide)
  rw [if_neg c4]
  by_cases c5:Am b=0
  · rw [if_pos c5]; exact hs _ h1
  rw [if_neg c5]
  exact hs _ (W8 _ _)
theorem Adg (a b:Int):Af (Fc a b)=true:=Cb Arr
theorem N3 {a b:Int} (ha:Af a=true) (hb:Af b=true):Af (Ew a b)=true:=by
  obtain ⟨x,rfl,hx⟩:=Bm ha
  obtain ⟨y,rfl,hy⟩:=Bm hb
  exact Cb (Va (by rw [Ayu]; exact hx) (Vu (by rw [Ayu]; exact hy))).1
theorem Gh {r c:Nat} {f:Nat→Nat→Int} (h:∀ i k,Af (f i k)=true):Ah (B7 r c f)=true:=Aq.2 fun x hx=>by
  obtain ⟨j,_,rfl⟩:=List.mem_map.1 hx
  exact h _ _
theorem Jn (a b:Int):Af (D3 a b)=true:=Cb Ro
theorem Mu (c:Int) (l:List Int) (b:Nat→Int) (n:Nat):∀ k,(upL c l b n k).length=k
  | 0=>rfl
  | k+1=>by rw [upL,List.length_cons,Mu c l b n k]
theorem Ago (c:Int) (l:List Int) (b:Nat→Int) (n:Nat):∀ k,∀ x∈upL c l b n k,Af x=true
  | 0,x,h=>by cases h
  | k+1,x,h=>by
    rw [upL] at h
    rcases List.mem_cons.1 h with rfl | h
    · exact Adg _ _
    · exact Ago c l b n k x h
theorem Ad3 (c:Int) (l:List Int) (b:Nat→Int) (n k:Nat):∀ d,(upL c l b n (k+d)).drop d=upL c l b n k
  | 0=>rfl
  | d+1=>by
    rw [← Nat.add_assoc,upL,List.drop_succ_cons]
    exact Ad3 c l b n k d
theorem Ad2 {c:Int} {l:List Int} {b:Nat→Int} {n k:Nat} (h:k≤n):(upL c l b n n).drop (n-k)=upL c l b n k:=by
  have:=Ad3 c l b n k (n-k)
  rw [Nat.add_sub_cancel' h] at this
  exact this
theorem Ail {c:Int} {l:List Int} {b:Nat→Int} {n i:Nat} (h:i<n) :
    (upL c l b n n).getD i 0=Fc (Qq c l (i:Int) (b i) ((i+1:Nat):Int) ((upL c l b n n).drop (i+1))) (D9 c l (i:Int) (i:Int)):=by
  have e1:=Ad2 (c:=c) (l:=l) (b:=b) (n:=n) (k:=n-i) (by omega)
  have e2:=Ad2 (c:=c) (l:=l) (b:=b) (n:=n) (k:=n-i-1) (by omega)
  rw [show n-(n-i)=i by omega] at e1
  rw [show n-(n-i-1)=i+1 by omega] at e2
  rw [e2]
  have e3:(upL c l b n n).getD i 0=((upL c l b n n).drop i).getD 0 0:=by
    rw [Ay2,Ay2,List.getElem?_drop,Nat.add_zero]
  rw [e3,e1,show n-i=(n-i-1)+1 by omega,upL]
  have e4:n-1-(n-i-1)=i:=by omega
  have e5:n-(n-i-1)=i+1:=by omega
  rw [e4,e5]
  rfl
theorem Xj {l:List Int} (h:∀ x∈l,Af x=true) (i:Nat):Af (l.getD i 0)=true:=by
  rw [Ay2]
  cases hi:l[i]? with
  | none=>exact Cb (n:=0) (by decide)
  | some x=>exact h x (List.mem_of_getElem? hi)
theorem Abg {c:Int} {l:List Int} {i s j:Int} {xs:List Int} {t:Nat} (h:t<xs.length):Qq c l i s j (xs.drop t)=Qq c l i (Ew s (D3 (D9 c l i j) (xs.getD t 0))) (j+1) (xs.drop (t+1)):=by
  rw [List.drop_eq_getElem_cons h,Qq,Ay2,Ay9 h]; rfl
theorem An9 (c:Int) (l:List Int) (b:Nat→Int):∀ k,∀ x∈loL c l b k,Af x=true
  | 0,x,h=>by cases h
  | k+1,x,h=>by
    rw [loL] at h
    rcases List.mem_append.1 h with h | h
    · exact An9 c l b k x h
    · rw [List.mem_singleton.1 h]; exact Adg _ _
end Go.Rnd
namespace Go.Rnd
open Go.Den
def Atm:Int:=4607182418800017408
def Fu (x:Int):Int:=(Oh x.toNat).1
def Qg (x:Int):Int:=(Oh x.toNat).2
def Aef (k:Int):Int→List Int→Int
  | s,[]=>s
  | s,x::l=>Aef k (Jx s (D3 (By x k) (By x k))) l
def Dk (x:List Int):Int :=
  if Be x=0∨Cv (Be x)=false then Be x else By (Fu (Aef (-Br (Be x)) 0 x)) (Br (Be x))
def Ed (l:List Int):Bool:=l.all fun x=>decide (Bd x=0)
def Oy:List Int→Int
  | []=>0
  | x::l=>if Bd x=0 then Oy l else x
def Bn (l:List Int) (k:Int):List Int:=l.map fun x=>By x k
def Jd (n:Nat) (f:Nat→Int):List Int:=Atm::(List.range (n-1)).map fun j=>f (j+1)
def muI (x:List Int):Int:=if Dt (Oy x)=true then Dk (Bn x (-Br (Be x))) else Db (Dk (Bn x (-Br (Be x))))
def E6 (x:List Int):Int:=By (muI x) (Br (Be x))
def Aot (x:List Int):Int:=By (x.getD 0 0) (-Br (Be x))
def Sb (x:List Int):List Int:=Jd x.length fun j=>Fc (By (x.getD j 0) (-Br (Be x))) (Ew (Aot x) (muI x))
def S3 (x:List Int):Int:=Fc (Ew (muI x) (Aot x)) (muI x)
def Jo (x:List Int):List Int × Int × Int × Int :=
  if Ed (x.drop 1)=true then (Jd x.length fun _=>0,0,x.getD 0 0,0)
  else if Cv (E6 x)=true then (Sb x,S3 x,E6 x,0) else ([],0,0,2)
def Cm (x:List Int):List Int × Int × Int × Int :=
  if x.length=0∨64<x.length then ([],0,0,3) else if Df x=true then Jo x else ([],0,0,4)
def Cu (c:Int) (l:List Int) (b i:Int) (n:Nat):List Int:=(List.range n).map fun j:Nat=>D9 c l (i+(j:Int)) b
def Tk (c:Int) (l:List Int) (i:Int) (v:List Int) (t b:Int):Int:=D3 t (Jg v (Cu c l b i v.length))
def P0 (c:Int) (l:List Int) (i k:Int) (v:List Int) (t a b:Int):Int :=
  if k≤b∧i≤a∧a<i+v.length then Ew (D9 c l a b) (D3 (Tk c l i v t b) (v.getD (a-i).toNat 0)) else D9 c l a b
def E9 (r c:Nat) (l:List Int) (i k:Int) (v:List Int) (t:Int):List Int:=B7 r c fun a b=>P0 (c:Int) l i k v t (a:Int) (b:Int)
def Ho (r c i k:Int) (v:List Int):Bool:=decide (0≤i∧(v.length:Int)≤r∧i≤r-v.length∧0≤k∧k≤c)
def Na (r c:Nat) (l:List Int) (j:Nat) (x:Int):List Int:=B7 r c fun a b=>if b=j∧j≤a then (if a=j then x else 0) else D9 (c:Int) l (a:Int) (b:Int)
def E5 (r c:Nat) (l:List Int) (j:Nat):List Int:=Cu (c:Int) l (j:Int) (j:Int) (r-j)
def Yu (r c:Nat) (l:List Int) (j:Nat):List Int:=Na r c (E9 r c l (j:Int) (j:Int) (Cm (E5 r c l j)).1 (Cm (E5 r c l j)).2.1) j (Cm (E5 r c l j)).2.2.1
def M9 (r c:Nat):Nat→Nat→List Int→Option (List Int × List (List Int × Int))
  | 0,_,l=>some (l,[])
  | n+1,j,l=>if (Cm (E5 r c l j)).2.2.2=0 then
      (M9 r c n (j+1) (Yu r c l j)).map fun x=>(x.1,((Cm (E5 r c l j)).1,(Cm (E5 r c l j)).2.1)::x.2) else none
def H9 (r c:Nat):Nat:=min c (r-1)
def Hg (n:Nat):Nat→List (List Int × Int)→List Int→List Int
  | _,[],q=>q
  | j,m::ms,q=>E9 n n (Hg n (j+1) ms q) (j:Int) 0 m.1 m.2
def Kd (r c:Nat) (l:List Int):Option (List Int × List (List Int × Int)):=M9 r c (H9 r c) 0 l
def Mi (r c:Nat) (l:List Int):List Int:=match Kd r c l with
  | some x=>Hg r 0 x.2 (I5 r)
  | none=>[]
def Kc (r c:Nat) (l:List Int):List Int:=match Kd r c l with
  | some x=>x.1
  | none=>[]
def F8 (r c:Int) (l:List Int):MX:=if (Kd r.toNat c.toNat l).isSome=true then (r,c,Kc r.toNat c.toNat l,0) else Kl 2
def Yt (ms:List (List Int × Int)):List (List DV):=ms.map fun m=>[.ints .arg .u64 m.1,.int .u64 m.2]
def Ky (r c:Int) (l:List Int):List (List DV):=match Kd r.toNat c.toNat l with
  | some x=>Yt x.2
  | none=>[]
def Uq (m:Int):Int:=S8 (m.toNat*2^64)
def Ur (m:Int):Bool:=decide (S8 (m.toNat*2^64)*S8 (m.toNat*2^64)=m.toNat*2^64)
def P5:List Int→Int→Int
  | [],_=>0
  | x::l,i=>if Bd x=0 then P5 l (i+1) else i
def L5 (r c:Nat) (l:List Int):Bool:=(Kd r c l).isSome&&(Df (Mi r c l)&&Df (Kc r c l))
def E8 (r c:Int) (l:List Int):Int:=if Cg r c l≠0 then Cg r c l else if L5 r.toNat c.toNat l=true then 0 else 2
def qX (r c:Int) (l:List Int):MX:=if E8 r c l≠0 then Kl (E8 r c l) else (r,r,Mi r.toNat c.toNat l,0)
def rX (r c:Int) (l:List Int):MX:=if E8 r c l≠0 then Kl (E8 r c l) else (r,c,Kc r.toNat c.toNat l,0)
def Ea (r c:Int) (l:List Int):MX:=if E8 r c l≠0 then Kl (E8 r c l) else (r,min r c,(Iq r r (Mi r.toNat c.toNat l) 0 0 r (min r c)).2.2.1,0)
def Ij (r c:Int) (l:List Int):MX:=if E8 r c l≠0 then Kl (E8 r c l) else (min r c,c,(Iq r c (Kc r.toNat c.toNat l) 0 0 (min r c) c).2.2.1,0)
def Ap3 (a b:MX) (p q:Int) (m:List Int):MX :=
  if (Dv a.1 a.2.1 a.2.2.1 p q m).2.2.2≠0 then Kl (Dv a.1 a.2.1 a.2.2.1 p q m).2.2.2
  else Tq b.1 b.2.1 b.2.2.1 (Dv a.1 a.2.1 a.2.2.1 p q m).1 (Dv a.1 a.2.1 a.2.2.1 p q m).2.1 (Dv a.1 a.2.1 a.2.2.1 p q m).2.2.1
def Fo (r c:Int) (l:List Int) (p q:Int) (m:List Int):MX :=
  if Cg r c l≠0 then Kl (Cg r c l) else if Cg p q m≠0 then Kl (Cg p q m) else if r<c∨r≠p then Kl 3
  else if E8 r c l≠0 then Kl (E8 r c l)
  else if (O2 (Ij r c l).1 (Ij r c l).2.1 (Ij r c l).2.2.1).1=true then Kl 5
  else Ap3 (Ea r c l) (Ij r c l) p q m
def Tl (x:Nat):Bool:=Cz (x<2^64)
def Afx (x:Nat):Bool:=Cz (x<2^64∧Am x≠3∧Am x≠4)
def It (x:Nat) (k:Int):Nat:=if Am x=4 then x else (Gl x k).1
def Mc (x:Nat):Nat:=if G9 x<4503599627370496 then (Nj x 4841369599423283200).1 else x
def I4 (x:Nat):Int:=if G9 x<4503599627370496 then -52 else 0
def Qz (b:Int):Int:=if Cv b=true then 0 else if Dt b=true then -1 else 1
end Go.Rnd
namespace Go.Rnd
open Go.Den
def mulM (x y:MX):MX:=Sa x.1 x.2.1 x.2.2.1 y.1 y.2.1 y.2.2.1
def Au5 (x:MX):MX:=Fq x.1 x.2.1 x.2.2.1
def Yk (x:MX) (i k a b:Int):MX:=Iq x.1 x.2.1 x.2.2.1 i k a b
def eqT (p q:Int) (m:List Int):List Int:=(Fq p q m).2.2.1
def eqR (p q:Int) (m:List Int):MX:=rX q p (eqT p q m)
def eqS (p q:Int) (m:List Int):MX:=Au5 (Yk (eqR p q m) 0 0 p p)
def hY (p q:Int) (m:List Int) (u v:Int) (h:List Int):MX :=
  if E8 q p (eqT p q m)≠0 then Kl (E8 q p (eqT p q m)) else if (O2 (eqS p q m).1 (eqS p q m).2.1 (eqS p q m).2.2.1).1=true then Kl 5
  else loX (eqS p q m).1 (eqS p q m).2.1 (eqS p q m).2.2.1 u v h
def hQ (p q:Int) (m:List Int):MX :=
  if E8 q p (eqT p q m)≠0 then Kl (E8 q p (eqT p q m)) else if (O2 (eqS p q m).1 (eqS p q m).2.1 (eqS p q m).2.2.1).1=true then Kl 5
  else qX q p (eqT p q m)
def Ahr (x y:MX):MX:=Fo x.1 x.2.1 x.2.2.1 y.1 y.2.1 y.2.2.1
end Go.Rnd
namespace Go.Rnd
open Go.Den
def upM (x y:MX):MX:=Tq x.1 x.2.1 x.2.2.1 y.1 y.2.1 y.2.2.1
def loM (x y:MX):MX:=loX x.1 x.2.1 x.2.2.1 y.1 y.2.1 y.2.2.1
def Av9 (x y:MX):MX:=Av8 x.1 x.2.1 x.2.2.1 y.1 y.2.1 y.2.2.1
def Ayj (x:MX):Int:=Cg x.1 x.2.1 x.2.2.1
def I7 (l m h:List Int):Bool:=(Ah l&&Ah m)&&Ah h
def C4 (x:Int) (l:List Int):List Int:=l.map fun y=>D3 x y
def Nb (r c:Int) (l:List Int) (p q:Int) (m:List Int) (u v:Int) (h:List Int):Int :=
  if Cg r c l≠0 then Cg r c l else if Cg p q m≠0 then Cg p q m else Cg u v h
def Oi (r c:Int) (l:List Int) (p q:Int) (m:List Int) (u v:Int) (h:List Int) (x:Int):Int :=
  if Nb r c l p q m u v h≠0 then Nb r c l p q m u v h else if Cv x=false then 4
  else if p≠r∨q≠1∨v≠c∨6<r+u then 3 else if Df (C4 x h)=false then 2 else 0
def Ar4 (r c:Int) (l:List Int) (u v:Int) (h:List Int) (x:Int):MX:=D0 r c l u v (C4 x h)
def Aej (p q:Int) (m:List Int) (u:Int):MX:=D0 p q m (C3 u 1).1 (C3 u 1).2.1 (C3 u 1).2.2.1
def Bi (r c:Int) (l:List Int) (p q:Int) (m:List Int) (u v:Int) (h:List Int) (x:Int):MX :=
  if Oi r c l p q m u v h x≠0 then Kl (Oi r c l p q m u v h x) else Ahr (Ar4 r c l u v h x) (Aej p q m u)
end Go.Rnd
namespace Go.Rnd
open Go.Den
def Hf (f:Int→MX):List Int→Int
  | []=>0
  | x::t=>if (f x).2.2.2≠0 then (f x).2.2.2 else Hf f t
def Vi (x:MX):List DV:=[.int .i64 x.1,.int .i64 x.2.1,.ints .arg .u64 x.2.2.1]
def C1 (f:Int→MX) (l:List Int):Int:=if 8<l.length then 1 else Hf f l
def Dg (f:Int→MX) (l:List Int):List (List DV):=if C1 f l≠0 then [] else l.map fun x=>Vi (f x)
def Jc (f:Int→MX):List Int→Int→Bool
  | [],_=>false
  | x::t,e=>if (f x).2.2.2≠0 then decide (e=(f x).2.2.2) else Jc f t e
end Go.Rnd
namespace Go.Proofs.S1
open Go Go.Den Go.Rnd
def soft.Split.pre:List Atom→Bool
  | [.i x]=>Af x
  | _=>false
def soft.Split.out:List Atom→DV
  | [.i x]=>.agg [.bool (Dt x),.int .i64 (Lv x),.int .u64 (C6 x)]
  | _=>.undef
def soft.Split.spec:Entry:=entry [.i .u64] soft.Split.pre soft.Split.out
def soft.Kind.pre:List Atom→Bool
  | [.i x]=>Af x
  | _=>false
def soft.Kind.out:List Atom→DV
  | [.i x]=>.int .i64 (Bd x)
  | _=>.undef
def soft.Kind.spec:Entry:=entry [.i .u64] soft.Kind.pre soft.Kind.out
def soft.Sign.pre:List Atom→Bool
  | [.i x]=>Af x
  | _=>false
def soft.Sign.out:List Atom→DV
  | [.i x]=>.bool (Dt x)
  | _=>.undef
def soft.Sign.spec:Entry:=entry [.i .u64] soft.Sign.pre soft.Sign.out
def soft.Finite.pre:List Atom→Bool
  | [.i x]=>Af x
  | _=>false
def soft.Finite.out:List Atom→DV
  | [.i x]=>.bool (Cv x)
  | _=>.undef
def soft.Finite.spec:Entry:=entry [.i .u64] soft.Finite.pre soft.Finite.out
def soft.Dp.pre:List Atom→Bool
  | [.i x]=>Af x
  | _=>false
def soft.Dp.out:List Atom→DV
  | [.i x]=>.int .u64 (Db x)
  | _=>.undef
def soft.Dp.spec:Entry:=entry [.i .u64] soft.Dp.pre soft.Dp.out
def soft.F9.pre:List Atom→Bool
  | [.i x]=>Af x
  | _=>false
def soft.F9.out:List Atom→DV
  | [.i x]=>.tup [.int .u64 (Bv x),.int .i64 (Bh x)]
  | _=>.undef
def soft.F9.spec:Entry:=entry [.i .u64] soft.F9.pre soft.F9.out
def soft.Pack.mu:List Atom→Nat
  | [.b _n,.i m,.i e]=>Pj m e
  | _=>0
def soft.Pack.pre:List Atom→Bool
  | [.b _n,.i m,.i e]=>K6 m e
  | _=>false
def soft.Pack.out:List Atom→DV
  | [.b n,.i m,.i e]=>.int .u64 (Ub n m e)
  | _=>.undef
def soft.Pack.spec:Entry:=entry [.b,.i .u64,.i .i64] soft.Pack.pre soft.Pack.out
def soft.Di.pre:List Atom→Bool
  | [.b _n,.i m,.i e,.b r]=>Eg m e r
  | _=>false
def soft.Di.out:List Atom→DV
  | [.b n,.i m,.i e,.b r]=>.tup [.int .u64 (E3 n m e r),.int .u8 (E2 n m e r)]
  | _=>.undef
def soft.Di.spec:Entry:=entry [.b,.i .u64,.i .i64,.b] soft.Di.pre soft.Di.out
def sum.right.pre:List Atom→Bool
  | [.i m,.i d]=>Af m&&Cz (0≤d∧d<1000000)
  | _=>false
def sum.right.out:List Atom→DV
  | [.i m,.i d]=>.int .u64 (Fe m d)
  | _=>.undef
def sum.right.spec:Entry:=entry [.i .u64,.i .i64] sum.right.pre sum.right.out
def sum.Er.pre:List Atom→Bool
  | [.i a,.i b]=>(Af a&&Af b)&&(!(Cv a)||!(Cv b))
  | _=>false
def sum.Er.out:List Atom→DV
  | [.i a,.i b]=>.tup [.int .u64 (Jx a b),.int .u8 (Wt a b)]
  | _=>.undef
def sum.Er.spec:Entry:=entry [.i .u64,.i .u64] sum.Er.pre sum.Er.out
def sum.Add.pre:List Atom→Bool
  | [.i a,.i b]=>Af a&&Af b
  | _=>false
def sum.Add.out:List Atom→DV
  | [.i a,.i b]=>.tup [.int .u64 (Jx a b),.int .u8 (Wt a b)]
  | _=>.undef
def sum.Add.spec:Entry:=entry [.i .u64,.i .u64] sum.Add.pre sum.Add.out
def sum.Sub.pre:List Atom→Bool
  | [.i a,.i b]=>Af a&&Af b
  | _=>false
def sum.Sub.out:List Atom→DV
  | [.i a,.i b]=>.tup [.int .u64 (Ew a b),.int .u8 (Awa a b)]
  | _=>.undef
def sum.Sub.spec:Entry:=entry [.i .u64,.i .u64] sum.Sub.pre sum.Sub.out
def A1.Neg.pre:List Atom→Bool
  | [.i x]=>Af x
  | _=>false
def A1.Neg.out:List Atom→DV
  | [.i x]=>.bool (Dt x)
  | _=>.undef
def A1.Neg.spec:Entry:=entry [.i .u64] A1.Neg.pre A1.Neg.out
def A1.Power.pre:List Atom→Bool
  | [.i x]=>Kv x
  | _=>false
def A1.Power.out:List Atom→DV
  | [.i x]=>.int .i64 (Lv x)
  | _=>.undef
def A1.Power.spec:Entry:=entry [.i .u64] A1.Power.pre A1.Power.out
def A1.Ls.pre:List Atom→Bool
  | [.i x]=>Kv x
  | _=>false
def A1.Ls.out:List Atom→DV
  | [.i x]=>.int .u64 (C6 x)
  | _=>.undef
def A1.Ls.spec:Entry:=entry [.i .u64] A1.Ls.pre A1.Ls.out
def A1.Kind.pre:List Atom→Bool
  | [.i x]=>Kv x
  | _=>false
def A1.Kind.out:List Atom→DV
  | [.i x]=>.int .i64 (Bd x)
  | _=>.undef
def A1.Kind.spec:Entry:=entry [.i .u64] A1.Kind.pre A1.Kind.out
def A1.Finite.pre:List Atom→Bool
  | [.i x]=>Af x
  | _=>false
def A1.Finite.out:List Atom→DV
  | [.i x]=>.bool (Cv x)
  | _=>.undef
def A1.Finite.spec:Entry:=entry [.i .u64] A1.Finite.pre A1.Finite.out
def A1.Dp.pre:List Atom→Bool
  | [.i x]=>Af x
  | _=>false
def A1.Dp.out:List Atom→DV
  | [.i x]=>.int .u64 (Db x)
  | _=>.undef
def A1.Dp.spec:Entry:=entry [.i .u64] A1.Dp.pre A1.Dp.out
def E0.Canon.pre:List Atom→Bool
  | [.i x]=>Kv x
  | _=>false
def E0.Canon.out:List Atom→DV
  | [.i x]=>.int .u64 (Zv x)
  | _=>.undef
def E0.Canon.spec:Entry:=entry [.i .u64] E0.Canon.pre E0.Canon.out
def C5.B5.pre:List Atom→Bool
  | [.i x]=>Af x
  | _=>false
def C5.B5.out:List Atom→DV
  | [.i x]=>.int .i64 (64-E4 x)
  | _=>.undef
def C5.B5.spec:Entry:=entry [.i .u64] C5.B5.pre C5.B5.out
def C5.Ie.pre:List Atom→Bool
  | [.i x,.i y]=>Af x&&Af y
  | _=>false
def C5.Ie.out:List Atom→DV
  | [.i x,.i y]=>.tup [.int .u64 (Si x y),.int .u64 (Nq x y)]
  | _=>.undef
def C5.Ie.spec:Entry:=entry [.i .u64,.i .u64] C5.Ie.pre C5.Ie.out
def times.signed.pre:List Atom→Bool
  | [.i b,.b _n]=>Af b
  | _=>false
def times.signed.out:List Atom→DV
  | [.i b,.b n]=>.int .u64 (Sf n b)
  | _=>.undef
def times.signed.spec:Entry:=entry [.i .u64,.b] times.signed.pre times.signed.out
def times.nan.pre:List Atom→Bool
  | [.i a,.i b]=>Af a&&Af b
  | _=>false
def times.nan.out:List Atom→DV
  | [.i a,.i b]=>.bool (Anu a b)
  | _=>.undef
def times.nan.spec:Entry:=entry [.i .u64,.i .u64] times.nan.pre times.nan.out
def times.norm.pre:List Atom→Bool
  | [.i b]=>Af b&&Md b
  | _=>false
def times.norm.out:List Atom→DV
  | [.i b]=>.tup [.int .u64 (C8 b),.int .i64 (Hd b)]
  | _=>.undef
def times.norm.spec:Entry:=entry [.i .u64] times.norm.pre times.norm.out
def times.wide.pre:List Atom→Bool
  | [.b _n,.i m,.i e,.b _r]=>Pa m e
  | _=>false
def times.wide.out:List Atom→DV
  | [.b n,.i m,.i e,.b r]=>.tup [.int .u64 (E3 n m e r),.int .u8 (E2 n m e r)]
  | _=>.undef
def times.wide.spec:Entry:=entry [.b,.i .u64,.i .i64,.b] times.wide.pre times.wide.out
def times.Mul.pre:List Atom→Bool
  | [.i a,.i b]=>Af a&&Af b
  | _=>false
def times.Mul.out:List Atom→DV
  | [.i a,.i b]=>.tup [.int .u64 (D3 a b),.int .u8 (Awg a b)]
  | _=>.undef
def times.Mul.spec:Entry:=entry [.i .u64,.i .u64] times.Mul.pre times.Mul.out
def times.Div.pre:List Atom→Bool
  | [.i a,.i b]=>Af a&&Af b
  | _=>false
def times.Div.out:List Atom→DV
  | [.i a,.i b]=>.tup [.int .u64 (Fc a b),.int .u8 (Awm a b)]
  | _=>.undef
def times.Div.spec:Entry:=entry [.i .u64,.i .u64] times.Div.pre times.Div.out
def Ae.Add.pre:List Atom→Bool
  | [.i a,.i b]=>Af a&&Af b
  | _=>false
def Ae.Add.out:List Atom→DV
  | [.i a,.i b]=>.int .u64 (Jx a b)
  | _=>.undef
def Ae.Add.spec:Entry:=entry [.i .u64,.i .u64] Ae.Add.pre Ae.Add.out
def Ae.Sub.pre:List Atom→Bool
  | [.i a,.i b]=>Af a&&Af b
  | _=>false
def Ae.Sub.out:List Atom→DV
  | [.i a,.i b]=>.int .u64 (Ew a b)
  | _=>.undef
def Ae.Sub.spec:Entry:=entry [.i .u64,.i .u64] Ae.Sub.pre Ae.Sub.out
def Ae.Mul.pre:List Atom→Bool
  | [.i a,.i b]=>Af a&&Af b
  | _=>false
def Ae.Mul.out:List Atom→DV
  | [.i a,.i b]=>.int .u64 (D3 a b)
  | _=>.undef
def Ae.Mul.spec:Entry:=entry [.i .u64,.i .u64] Ae.Mul.pre Ae.Mul.out
def Ae.fit.pre:List Atom→Bool
  | [.l _x,.l _y]=>true
  | _=>false
def Ae.fit.out:List Atom→DV
  | [.l x,.l y]=>.bool (O3 x y)
  | _=>.undef
def Ae.fit.spec:Entry:=entry [.s .u64,.s .u64] Ae.fit.pre Ae.fit.out
def Ae.H3.pre:List Atom→Bool
  | [.l x,.l y]=>(O3 x y&&Ah x)&&Ah y
  | _=>false
def Ae.H3.out:List Atom→DV
  | [.l x,.l y]=>.tup [.int .u64 (Jg x y),.int .i64 (0:Int)]
  | _=>.undef
def Ae.H3.spec:Entry:=entry [.s .u64,.s .u64] Ae.H3.pre Ae.H3.out
def Ag.F.pre:List Atom→Bool
  | [.i x]=>Af x
  | _=>false
def Ag.F.out:List Atom→DV
  | [.i x]=>.fl (Int.toNat x)
  | _=>.undef
def Ag.F.spec:Entry:=entry [.i .u64] Ag.F.pre Ag.F.out
def Ag.B.pre:List Atom→Bool
  | [.f _x]=>true
  | _=>false
def Ag.B.out:List Atom→DV
  | [.f x]=>.int .u64 (Fw x)
  | _=>.undef
def Ag.B.spec:Entry:=entry [.fl] Ag.B.pre Ag.B.out
def Ag.Add.pre:List Atom→Bool
  | [.i a,.i b]=>Af a&&Af b
  | _=>false
def Ag.Add.out:List Atom→DV
  | [.i a,.i b]=>.int .u64 (Jx a b)
  | _=>.undef
def Ag.Add.spec:Entry:=entry [.i .u64,.i .u64] Ag.Add.pre Ag.Add.out
def Ag.Sub.pre:List Atom→Bool
  | [.i a,.i b]=>Af a&&Af b
  | _=>false
def Ag.Sub.out:List Atom→DV
  | [.i a,.i b]=>.int .u64 (Ew a b)
  | _=>.undef
def Ag.Sub.spec:Entry:=entry [.i .u64,.i .u64] Ag.Sub.pre Ag.Sub.out
def Ag.Mul.pre:List Atom→Bool
  | [.i a,.i b]=>Af a&&Af b
  | _=>false
def Ag.Mul.out:List Atom→DV
  | [.i a,.i b]=>.int .u64 (D3 a b)
  | _=>.undef
def Ag.Mul.spec:Entry:=entry [.i .u64,.i .u64] Ag.Mul.pre Ag.Mul.out
def Ag.H3.pre:List Atom→Bool
  | [.l x,.l y]=>(O3 x y&&Ah x)&&Ah y
  | _=>false
def Ag.H3.out:List Atom→DV
  | [.l x,.l y]=>.int .u64 (Jg x y)
  | _=>.undef
def Ag.H3.spec:Entry:=entry [.s .u64,.s .u64] Ag.H3.pre Ag.H3.out
def Ag.Ex.pre:List Atom→Bool
  | [.l x,.l _y]=>Lg x
  | _=>false
def Ag.Ex.out:List Atom→DV
  | [.l x,.l y]=>.bool (T4 x y)
  | _=>.undef
def Ag.Ex.spec:Entry:=entry [.s .u64,.s .u64] Ag.Ex.pre Ag.Ex.out
def Aa.size.pre:List Atom→Bool
  | [.i _n]=>true
  | _=>false
def Aa.size.out:List Atom→DV
  | [.i n]=>.bool (Bg n)
  | _=>.undef
def Aa.size.spec:Entry:=entry [.i .i64] Aa.size.pre Aa.size.out
def Aa.Check.pre:List Atom→Bool
  | [.i _r,.i _c,.l _l]=>true
  | _=>false
def Aa.Check.out:List Atom→DV
  | [.i r,.i c,.l l]=>.int .i64 (K1 r c l)
  | _=>.undef
def Aa.Check.spec:Entry:=entry [.st [.i .i64,.i .i64,.s .u64]] Aa.Check.pre Aa.Check.out
def Aa.get.pre:List Atom→Bool
  | [.i r,.i c,.l l,.i i,.i k]=>C2 r c l i k
  | _=>false
def Aa.get.out:List Atom→DV
  | [.i _r,.i c,.l l,.i i,.i k]=>.int .u64 (D9 c l i k)
  | _=>.undef
def Aa.get.spec:Entry:=entry [.st [.i .i64,.i .i64,.s .u64],.i .i64,.i .i64] Aa.get.pre Aa.get.out
def Aa.two.pre:List Atom→Bool
  | [.i _r,.i _c,.l _l,.i _p,.i _q,.l _m]=>true
  | _=>false
def Aa.two.out:List Atom→DV
  | [.i r,.i c,.l l,.i p,.i q,.l m]=>.int .i64 (Xr r c l p q m)
  | _=>.undef
def Aa.two.spec:Entry:=entry [.st [.i .i64,.i .i64,.s .u64],.st [.i .i64,.i .i64,.s .u64]] Aa.two.pre Aa.two.out
def Aa.Row.pre:List Atom→Bool
  | [.i r,.i c,.l l,.i i,.i f]=>Pg r c l i&&decide (f=0)
  | _=>false
def Aa.Row.out:List Atom→DV
  | [.i _r,.i c,.l l,.i i,.i _f]=>.ints .fresh .u64 (Ha c l i)
  | _=>.undef
def Aa.Row.spec:Entry:=entry [.st [.i .i64,.i .i64,.s .u64],.i .i64,.i .i64] Aa.Row.pre Aa.Row.out
def Aa.D1.pre:List Atom→Bool
  | [.i r,.i c,.l l,.i k,.i f]=>G6 r c l k&&Cz (0≤f∧f≤r)
  | _=>false
def Aa.D1.out:List Atom→DV
  | [.i r,.i c,.l l,.i k,.i f]=>.ints .fresh .u64 (Cu c l k f (Int.toNat (r-f)))
  | _=>.undef
def Aa.D1.spec:Entry:=entry [.st [.i .i64,.i .i64,.s .u64],.i .i64,.i .i64] Aa.D1.pre Aa.D1.out
def Aa.Ei.pre:List Atom→Bool
  | [.i _i,.i _k]=>true
  | _=>false
def Aa.Ei.out:List Atom→DV
  | [.i _i,.i _k]=>.int .u64 (0:Int)
  | _=>.undef
def Aa.Ei.spec:Entry:=entry [.i .i64,.i .i64] Aa.Ei.pre Aa.Ei.out
def Aa.Ii.pre:List Atom→Bool
  | [.i _i,.i _k]=>true
  | _=>false
def Aa.Ii.out:List Atom→DV
  | [.i i,.i k]=>.int .u64 (Nk i k)
  | _=>.undef
def Aa.Ii.spec:Entry:=entry [.i .i64,.i .i64] Aa.Ii.pre Aa.Ii.out
def Aa.Fy.pre:List Atom→Bool
  | [.i i,.i k,.i r,.i c,.l l]=>C2 r c l k i
  | _=>false
def Aa.Fy.out:List Atom→DV
  | [.i i,.i k,.i _r,.i c,.l l]=>.int .u64 (D9 c l k i)
  | _=>.undef
def Aa.Fy.spec:Entry:=entry [.i .i64,.i .i64,.cp [.i .i64,.i .i64,.s .u64]] Aa.Fy.pre Aa.Fy.out
def Aa.F0.pre:List Atom→Bool
  | [.i i,.i k,.i r,.i c,.l l,.i x,.i y]=>C2 r c l (x+i) (y+k)&&Vh x y i k
  | _=>false
def Aa.F0.out:List Atom→DV
  | [.i i,.i k,.i _r,.i c,.l l,.i x,.i y]=>.int .u64 (D9 c l (x+i) (y+k))
  | _=>.undef
def Aa.F0.spec:Entry:=entry [.i .i64,.i .i64,.cp [.i .i64,.i .i64,.s .u64],.cp [.i .i64],.cp [.i .i64]] Aa.F0.pre Aa.F0.out
def Aa.Ayq.pre:List Atom→Bool
  | [.i i,.i k,.i r,.i c,.l l,.i p,.i q,.l m]=>((C2 r c l i k&&C2 p q m i k)&&Ah l)&&Ah m
  | _=>false
def Aa.Eu.pre:List Atom→Bool
  | [.i i,.i k,.i r,.i c,.l l,.i p,.i q,.l m]=>Mw r c l p q m i k
  | _=>false
def Aa.Eu.out:List Atom→DV
  | [.i i,.i k,.i r,.i c,.l l,.i _p,.i q,.l m]=>.int .u64 (Ja r c l q m i k)
  | _=>.undef
def Aa.Eu.spec:Entry:=entry [.i .i64,.i .i64,.cp [.i .i64,.i .i64,.s .u64],.cp [.i .i64,.i .i64,.s .u64]] Aa.Eu.pre Aa.Eu.out
def Aa.Ic.pre:List Atom→Bool
  | [.i i,.i k,.i r,.i c,.l l,.i p,.i q,.l m]=>S2 r c l p q m i k
  | _=>false
def Aa.Ic.out:List Atom→DV
  | [.i i,.i k,.i _r,.i c,.l l,.i p,.i q,.l m]=>.int .u64 (Jg (Ha c l i) (Kk p q m k))
  | _=>.undef
def Aa.Ic.spec:Entry:=entry [.i .i64,.i .i64,.cp [.i .i64,.i .i64,.s .u64],.cp [.i .i64,.i .i64,.s .u64]] Aa.Ic.pre Aa.Ic.out
def Aa.of.Bf.pre:List Atom→Bool
  | [.i a,.i b]=>(Bg a&&Bg b)
  | _=>false
def Aa.of.Bf.out:List Atom→DV
  | [.i a,.i b]=>.agg [.int .i64 a,.int .i64 b,.ints .fresh .u64 (B7 (Int.toNat a) (Int.toNat b) (fun _ _=>0))]
  | _=>.undef
def Aa.of.Bf.spec:Entry:=entry [.i .i64,.i .i64,.fn 205 []] Aa.of.Bf.pre Aa.of.Bf.out
def Aa.of.Ey.pre:List Atom→Bool
  | [.i a,.i b]=>(Bg a&&Bg b)
  | _=>false
def Aa.of.Ey.out:List Atom→DV
  | [.i a,.i b]=>.agg [.int .i64 a,.int .i64 b,.ints .fresh .u64 (B7 (Int.toNat a) (Int.toNat b) (fun j1 j2=>Nk j1 j2))]
  | _=>.undef
def Aa.of.Ey.spec:Entry:=entry [.i .i64,.i .i64,.fn 246 []] Aa.of.Ey.pre Aa.of.Ey.out
def Aa.of.Cs.pre:List Atom→Bool
  | [.i a,.i b,.i r,.i c,.l l]=>(Bg a&&Bg b)&&A0 r c l&&decide (a=c∧b=r)
  | _=>false
def Aa.of.Cs.out:List Atom→DV
  | [.i a,.i b,.i _r,.i c,.l l]=>.agg [.int .i64 a,.int .i64 b,.ints .fresh .u64 (B7 (Int.toNat a) (Int.toNat b) (fun j1 j2=>D9 c l j2 j1))]
  | _=>.undef
def Aa.of.Cs.spec:Entry:=entry [.i .i64,.i .i64,.fn 220 [.cp [.i .i64,.i .i64,.s .u64]]] Aa.of.Cs.pre Aa.of.Cs.out
def Aa.of.Part.pre:List Atom→Bool
  | [.i a,.i b,.i r,.i c,.l l,.i x,.i y]=>(Bg a&&Bg b)&&A0 r c l&&Hv r c x y a b
  | _=>false
def Aa.of.Part.out:List Atom→DV
  | [.i a,.i b,.i _r,.i c,.l l,.i x,.i y]=>.agg [.int .i64 a,.int .i64 b,.ints .fresh .u64 (B7 (Int.toNat a) (Int.toNat b) (fun j1 j2=>D9 c l (x+j1) (y+j2)))]
  | _=>.undef
def Aa.of.Part.spec:Entry:=entry [.i .i64,.i .i64,.fn 192 [.cp [.i .i64,.i .i64,.s .u64],.cp [.i .i64],.cp [.i .i64]]] Aa.of.Part.pre Aa.of.Part.out
def Aa.of.Stack.pre:List Atom→Bool
  | [.i a,.i b,.i r,.i c,.l l,.i p,.i q,.l m]=>(Bg a&&Bg b)&&(A0 r c l&&A0 p q m)&&decide (a=r+p∧b=c∧q=c)
  | _=>false
def Aa.of.Stack.out:List Atom→DV
  | [.i a,.i b,.i r,.i c,.l l,.i _p,.i q,.l m]=>.agg [.int .i64 a,.int .i64 b,.ints .fresh .u64 (B7 (Int.toNat a) (Int.toNat b) (fun j1 j2=>Ja r c l q m j1 j2))]
  | _=>.undef
def Aa.of.Stack.spec:Entry:=entry [.i .i64,.i .i64,.fn 195 [.cp [.i .i64,.i .i64,.s .u64],.cp [.i .i64,.i .i64,.s .u64]]] Aa.of.Stack.pre Aa.of.Stack.out
def Aa.of.Mul.pre:List Atom→Bool
  | [.i a,.i b,.i r,.i c,.l l,.i p,.i q,.l m]=>(Bg a&&Bg b)&&((A0 r c l&&A0 p q m)&&(Ah l&&Ah m))&&decide (a=r∧b=q∧c=p)
  | _=>false
def Aa.of.Mul.out:List Atom→DV
  | [.i a,.i b,.i _r,.i c,.l l,.i p,.i q,.l m]=>.agg [.int .i64 a,.int .i64 b,.ints .fresh .u64 (B7 (Int.toNat a) (Int.toNat b) (fun j1 j2=>Jg (Ha c l j1) (Kk p q m j2)))]
  | _=>.undef
def Aa.of.Mul.spec:Entry:=entry [.i .i64,.i .i64,.fn 188 [.cp [.i .i64,.i .i64,.s .u64],.cp [.i .i64,.i .i64,.s .u64]]] Aa.of.Mul.pre Aa.of.Mul.out
def Aa.Bf.pre:List Atom→Bool
  | [.i _a,.i _b]=>true
  | _=>false
def Aa.Bf.out:List Atom→DV
  | [.i a,.i b]=>.tup [.agg [.int .i64 ((C3 a b).1),.int .i64 ((C3 a b).2.1),.ints .fresh .u64 ((C3 a b).2.2.1)],.int .i64 ((C3 a b).2.2.2)]
  | _=>.undef
def Aa.Bf.spec:Entry:=entry [.i .i64,.i .i64] Aa.Bf.pre Aa.Bf.out
def Aa.Ey.pre:List Atom→Bool
  | [.i _n]=>true
  | _=>false
def Aa.Ey.out:List Atom→DV
  | [.i n]=>.tup [.agg [.int .i64 ((M8 n).1),.int .i64 ((M8 n).2.1),.ints .fresh .u64 ((M8 n).2.2.1)],.int .i64 ((M8 n).2.2.2)]
  | _=>.undef
def Aa.Ey.spec:Entry:=entry [.i .i64] Aa.Ey.pre Aa.Ey.out
def Aa.Cs.pre:List Atom→Bool
  | [.i _r,.i _c,.l _l]=>true
  | _=>false
def Aa.Cs.out:List Atom→DV
  | [.i r,.i c,.l l]=>.tup [.agg [.int .i64 ((Fq r c l).1),.int .i64 ((Fq r c l).2.1),.ints .fresh .u64 ((Fq r c l).2.2.1)],.int .i64 ((Fq r c l).2.2.2)]
  | _=>.undef
def Aa.Cs.spec:Entry:=entry [.st [.i .i64,.i .i64,.s .u64]] Aa.Cs.pre Aa.Cs.out
def Aa.Part.pre:List Atom→Bool
  | [.i _r,.i _c,.l _l,.i _x,.i _y,.i _a,.i _b]=>true
  | _=>false
def Aa.Part.out:List Atom→DV
  | [.i r,.i c,.l l,.i x,.i y,.i a,.i b]=>.tup [.agg [.int .i64 ((Iq r c l x y a b).1),.int .i64 ((Iq r c l x y a b).2.1),.ints .fresh .u64 ((Iq r c l x y a b).2.2.1)],.int .i64 ((Iq r c l x y a b).2.2.2)]
  | _=>.undef
def Aa.Part.spec:Entry:=entry [.st [.i .i64,.i .i64,.s .u64],.i .i64,.i .i64,.i .i64,.i .i64] Aa.Part.pre Aa.Part.out
def Aa.Stack.pre:List Atom→Bool
  | [.i _r,.i _c,.l _l,.i _p,.i _q,.l _m]=>true
  | _=>false
def Aa.Stack.out:List Atom→DV
  | [.i r,.i c,.l l,.i p,.i q,.l m]=>.tup [.agg [.int .i64 ((D0 r c l p q m).1),.int .i64 ((D0 r c l p q m).2.1),.ints .fresh .u64 ((D0 r c l p q m).2.2.1)],.int .i64 ((D0 r c l p q m).2.2.2)]
  | _=>.undef
def Aa.Stack.spec:Entry:=entry [.st [.i .i64,.i .i64,.s .u64],.st [.i .i64,.i .i64,.s .u64]] Aa.Stack.pre Aa.Stack.out
def Aa.Mul.pre:List Atom→Bool
  | [.i _r,.i _c,.l l,.i _p,.i _q,.l m]=>Ah l&&Ah m
  | _=>false
def Aa.Mul.out:List Atom→DV
  | [.i r,.i c,.l l,.i p,.i q,.l m]=>.tup [.agg [.int .i64 ((Sa r c l p q m).1),.int .i64 ((Sa r c l p q m).2.1),.ints .fresh .u64 ((Sa r c l p q m).2.2.1)],.int .i64 ((Sa r c l p q m).2.2.2)]
  | _=>.undef
def Aa.Mul.spec:Entry:=entry [.st [.i .i64,.i .i64,.s .u64],.st [.i .i64,.i .i64,.s .u64]] Aa.Mul.pre Aa.Mul.out
def Aj.Ib.pre:List Atom→Bool
  | [.i _r,.i _c,.l _l]=>true
  | _=>false
def Aj.Ib.out:List Atom→DV
  | [.i r,.i c,.l l]=>.bool (A0 r c l)
  | _=>.undef
def Aj.Ib.spec:Entry:=entry [.st [.i .i64,.i .i64,.s .u64]] Aj.Ib.pre Aj.Ib.out
def Aj.At.pre:List Atom→Bool
  | [.i r,.i c,.l l,.i i,.i k]=>C2 r c l i k
  | _=>false
def Aj.At.out:List Atom→DV
  | [.i _r,.i c,.l l,.i i,.i k]=>.int .u64 (D9 c l i k)
  | _=>.undef
def Aj.At.spec:Entry:=entry [.st [.i .i64,.i .i64,.s .u64],.i .i64,.i .i64] Aj.At.pre Aj.At.out
def Aj.Bf.pre:List Atom→Bool
  | [.i a,.i b]=>Bg a&&Bg b
  | _=>false
def Aj.Bf.out:List Atom→DV
  | [.i a,.i b]=>.agg [.int .i64 a,.int .i64 b,.ints .fresh .u64 (B7 (Int.toNat a) (Int.toNat b) (fun _ _=>0))]
  | _=>.undef
def Aj.Bf.spec:Entry:=entry [.i .i64,.i .i64] Aj.Bf.pre Aj.Bf.out
def Aj.Ga.pre:List Atom→Bool
  | [.i r,.i c,.l l,.i i,.i k,.i _b]=>C2 r c l i k
  | _=>false
def Aj.Ga.out:List Atom→DV
  | [.i r,.i c,.l l,.i i,.i k,.i b]=>.agg [.int .i64 r,.int .i64 c,.ints .fresh .u64 (List.set l (Int.toNat (i*c+k)) b)]
  | _=>.undef
def Aj.Ga.spec:Entry:=entry [.st [.i .i64,.i .i64,.s .u64],.i .i64,.i .i64,.i .u64] Aj.Ga.pre Aj.Ga.out
def Aj.Ey.pre:List Atom→Bool
  | [.i n]=>Bg n
  | _=>false
def Aj.Ey.out:List Atom→DV
  | [.i n]=>.agg [.int .i64 n,.int .i64 n,.ints .fresh .u64 (B7 (Int.toNat n) (Int.toNat n) (fun j1 j2=>Nk j1 j2))]
  | _=>.undef
def Aj.Ey.spec:Entry:=entry [.i .i64] Aj.Ey.pre Aj.Ey.out
def Aj.Ex.pre:List Atom→Bool
  | [.i _r,.i _c,.l l,.i _p,.i _q,.l _m]=>Lg l
  | _=>false
def Aj.Ex.out:List Atom→DV
  | [.i r,.i c,.l l,.i p,.i q,.l m]=>.bool (X5 r c l p q m)
  | _=>.undef
def Aj.Ex.spec:Entry:=entry [.st [.i .i64,.i .i64,.s .u64],.st [.i .i64,.i .i64,.s .u64]] Aj.Ex.pre Aj.Ex.out
def Aj.Row.pre:List Atom→Bool
  | [.i r,.i c,.l l,.i i]=>Pg r c l i
  | _=>false
def Aj.Row.out:List Atom→DV
  | [.i _r,.i c,.l l,.i i]=>.ints .arg .u64 (Ha c l i)
  | _=>.undef
def Aj.Row.spec:Entry:=entry [.st [.i .i64,.i .i64,.s .u64],.i .i64] Aj.Row.pre Aj.Row.out
def Aj.P7.pre:List Atom→Bool
  | [.i r,.i c,.l l,.i k,.i f]=>G6 r c l k&&Cz (0≤f∧f≤r)
  | _=>false
def Aj.P7.out:List Atom→DV
  | [.i r,.i c,.l l,.i k,.i f]=>.ints .fresh .u64 (Cu c l k f (Int.toNat (r-f)))
  | _=>.undef
def Aj.P7.spec:Entry:=entry [.st [.i .i64,.i .i64,.s .u64],.i .i64,.i .i64] Aj.P7.pre Aj.P7.out
def Aj.Mul.pre:List Atom→Bool
  | [.i r,.i c,.l l,.i p,.i q,.l m]=>(A0 r c l&&A0 p q m)&&((Ah l&&Ah m)&&decide (c=p))
  | _=>false
def Aj.Mul.out:List Atom→DV
  | [.i r,.i c,.l l,.i p,.i q,.l m]=>.agg [.int .i64 r,.int .i64 q,.ints .fresh .u64 (B7 (Int.toNat r) (Int.toNat q) (fun j1 j2=>Jg (Ha c l j1) (Kk p q m j2)))]
  | _=>.undef
def Aj.Mul.spec:Entry:=entry [.st [.i .i64,.i .i64,.s .u64],.st [.i .i64,.i .i64,.s .u64]] Aj.Mul.pre Aj.Mul.out
def Aj.Cs.pre:List Atom→Bool
  | [.i r,.i c,.l l]=>A0 r c l
  | _=>false
def Aj.Cs.out:List Atom→DV
  | [.i r,.i c,.l l]=>.agg [.int .i64 c,.int .i64 r,.ints .fresh .u64 (B7 (Int.toNat c) (Int.toNat r) (fun j1 j2=>D9 c l j2 j1))]
  | _=>.undef
def Aj.Cs.spec:Entry:=entry [.st [.i .i64,.i .i64,.s .u64]] Aj.Cs.pre Aj.Cs.out
def Aj.Part.pre:List Atom→Bool
  | [.i r,.i c,.l l,.i x,.i y,.i a,.i b]=>A0 r c l&&Hv r c x y a b
  | _=>false
def Aj.Part.out:List Atom→DV
  | [.i _r,.i c,.l l,.i x,.i y,.i a,.i b]=>.agg [.int .i64 a,.int .i64 b,.ints .fresh .u64 (B7 (Int.toNat a) (Int.toNat b) (fun j1 j2=>D9 c l (x+j1) (y+j2)))]
  | _=>.undef
def Aj.Part.spec:Entry:=entry [.st [.i .i64,.i .i64,.s .u64],.i .i64,.i .i64,.i .i64,.i .i64] Aj.Part.pre Aj.Part.out
def Ai.Jy.pre:List Atom→Bool
  | [.l l,.i _i]=>Hs l
  | _=>false
def Ai.Jy.out:List Atom→DV
  | [.l l,.i i]=>.int .u64 (G4 l i)
  | _=>.undef
def Ai.Jy.spec:Entry:=entry [.s .u32,.i .i64] Ai.Jy.pre Ai.Jy.out
def Ai.Made.pre:List Atom→Bool
  | [.b _n,.l l]=>Hs l
  | _=>false
def Ai.Made.out:List Atom→DV
  | [.b n,.l l]=>.agg [.bool (Bj (wv n l)),.ints .arg .u32 (Ap (wv n l))]
  | _=>.undef
def Ai.Made.spec:Entry:=entry [.b,.s .u32] Ai.Made.pre Ai.Made.out
def Ai.Of.pre:List Atom→Bool
  | [.i n]=>Aje n
  | _=>false
def Ai.Of.out:List Atom→DV
  | [.i n]=>.agg [.bool (Bj (n)),.ints .arg .u32 (Ap (n))]
  | _=>.undef
def Ai.Of.spec:Entry:=entry [.i .i64] Ai.Of.pre Ai.Of.out
def Ai.Iy.pre:List Atom→Bool
  | [.l a,.l b]=>Hs a&&Hs b
  | _=>false
def Ai.Iy.out:List Atom→DV
  | [.l a,.l b]=>.int .i64 (V3 (Cr a) (Cr b))
  | _=>.undef
def Ai.Iy.spec:Entry:=entry [.s .u32,.s .u32] Ai.Iy.pre Ai.Iy.out
def Ai.plus.pre:List Atom→Bool
  | [.l a,.l b]=>Hs a&&Hs b
  | _=>false
def Ai.plus.out:List Atom→DV
  | [.l a,.l b]=>.ints .arg .u32 (J7 a b)
  | _=>.undef
def Ai.plus.spec:Entry:=entry [.s .u32,.s .u32] Ai.plus.pre Ai.plus.out
def Ai.minus.pre:List Atom→Bool
  | [.l a,.l b]=>(Hs a&&Hs b)&&leL b a
  | _=>false
def Ai.minus.out:List Atom→DV
  | [.l a,.l b]=>.ints .arg .u32 (Hj a b)
  | _=>.undef
def Ai.minus.spec:Entry:=entry [.s .u32,.s .u32] Ai.minus.pre Ai.minus.out
def Ai.Add.pre:List Atom→Bool
  | [.b n,.l a,.b m,.l b]=>Jm n a&&Jm m b
  | _=>false
def Ai.Add.out:List Atom→DV
  | [.b n,.l a,.b m,.l b]=>.agg [.bool (Bj (wv n a+wv m b)),.ints .arg .u32 (Ap (wv n a+wv m b))]
  | _=>.undef
def Ai.Add.spec:Entry:=entry [.st [.b,.s .u32],.st [.b,.s .u32]] Ai.Add.pre Ai.Add.out
def Ai.Neg.pre:List Atom→Bool
  | [.b n,.l a]=>Jm n a
  | _=>false
def Ai.Neg.out:List Atom→DV
  | [.b n,.l a]=>.agg [.bool (Bj (- wv n a)),.ints .arg .u32 (Ap (- wv n a))]
  | _=>.undef
def Ai.Neg.spec:Entry:=entry [.st [.b,.s .u32]] Ai.Neg.pre Ai.Neg.out
def Ai.F4.pre:List Atom→Bool
  | [.b n,.l a]=>Jm n a
  | _=>false
def Ai.F4.out:List Atom→DV
  | [.b n,.l a]=>.agg [.bool (Bj (2*wv n a)),.ints .arg .u32 (Ap (2*wv n a))]
  | _=>.undef
def Ai.F4.spec:Entry:=entry [.st [.b,.s .u32]] Ai.F4.pre Ai.F4.out
def Ai.H2.pre:List Atom→Bool
  | [.b n,.l a]=>Jm n a
  | _=>false
def Ai.H2.out:List Atom→DV
  | [.b n,.l a]=>.agg [.bool (Bj (K4 (wv n a) 1)),.ints .arg .u32 (Ap (K4 (wv n a) 1))]
  | _=>.undef
def Ai.H2.spec:Entry:=entry [.st [.b,.s .u32]] Ai.H2.pre Ai.H2.out
def Ai.Bs.pre:List Atom→Bool
  | [.b n,.l a,.i k]=>Xd n a&&Atn k
  | _=>false
def Ai.Bs.out:List Atom→DV
  | [.b n,.l a,.i k]=>.agg [.bool (Bj (Gy (wv n a) k)),.ints .arg .u32 (Ap (Gy (wv n a) k))]
  | _=>.undef
def Ai.Bs.spec:Entry:=entry [.st [.b,.s .u32],.i .i64] Ai.Bs.pre Ai.Bs.out
def Ai.Rb.pre:List Atom→Bool
  | [.b n,.l a]=>Jm n a
  | _=>false
def Ai.Rb.out:List Atom→DV
  | [.b n,.l a]=>.int .i64 (Y3 (wv n a))
  | _=>.undef
def Ai.Rb.spec:Entry:=entry [.st [.b,.s .u32]] Ai.Rb.pre Ai.Rb.out
def Ai.Xl.pre:List Atom→Bool
  | [.b n,.l a]=>Jm n a
  | _=>false
def Ai.Xl.out:List Atom→DV
  | [.b n,.l a]=>.bool (Akt (wv n a))
  | _=>.undef
def Ai.Xl.spec:Entry:=entry [.st [.b,.s .u32]] Ai.Xl.pre Ai.Xl.out
def Ay.Of.pre:List Atom→Bool
  | [.b n,.l a,.i e]=>Jm n a&&Aad e
  | _=>false
def Ay.Of.out:List Atom→DV
  | [.b n,.l a,.i e]=>.agg [.bool (Bj (mD (wv n a))),.ints .arg .u32 (Ap (mD (wv n a))),.int .i64 (eD (wv n a) e)]
  | _=>.undef
def Ay.Of.spec:Entry:=entry [.st [.b,.s .u32],.i .i64] Ay.Of.pre Ay.Of.out
def Ay.Neg.pre:List Atom→Bool
  | [.b n,.l a,.i _e]=>Jm n a
  | _=>false
def Ay.Neg.out:List Atom→DV
  | [.b n,.l a,.i e]=>.agg [.bool (Bj (- wv n a)),.ints .arg .u32 (Ap (- wv n a)),.int .i64 e]
  | _=>.undef
def Ay.Neg.spec:Entry:=entry [.st [.b,.s .u32,.i .i64]] Ay.Neg.pre Ay.Neg.out
def Ay.Xm.pre:List Atom→Bool
  | [.b n,.l a,.i _e,.b m,.l b,.i _f]=>Jm n a&&Jm m b
  | _=>false
def Ay.Xm.out:List Atom→DV
  | [.b n,.l a,.i e,.b m,.l b,.i f]=>.int .i64 (C9 (wv n a) e (wv m b) f)
  | _=>.undef
def Ay.Xm.spec:Entry:=entry [.st [.b,.s .u32,.i .i64],.st [.b,.s .u32,.i .i64]] Ay.Xm.pre Ay.Xm.out
def Ay.Level.pre:List Atom→Bool
  | [.b n,.l a,.i e,.i f]=>Xd n a&&Ae6 (wv n a) e f
  | _=>false
def Ay.Level.out:List Atom→DV
  | [.b n,.l a,.i e,.i f]=>.agg [.bool (Bj (Gy (wv n a) (e-f))),.ints .arg .u32 (Ap (Gy (wv n a) (e-f)))]
  | _=>.undef
def Ay.Level.spec:Entry:=entry [.st [.b,.s .u32,.i .i64],.i .i64] Ay.Level.pre Ay.Level.out
def Ay.Add.pre:List Atom→Bool
  | [.b n,.l a,.i e,.b m,.l b,.i f]=>((Xd n a&&Xd m b)&&Wx e)&&Wx f
  | _=>false
def Ay.Add.out:List Atom→DV
  | [.b n,.l a,.i e,.b m,.l b,.i f]=>.agg [.bool (Bj (Q8 (wv n a) e (wv m b) f)),.ints .arg .u32 (Ap (Q8 (wv n a) e (wv m b) f)),.int .i64 (Apu (wv n a) e (wv m b) f)]
  | _=>.undef
def Ay.Add.spec:Entry:=entry [.st [.b,.s .u32,.i .i64],.st [.b,.s .u32,.i .i64]] Ay.Add.pre Ay.Add.out
def Ay.Sub.pre:List Atom→Bool
  | [.b n,.l a,.i e,.b m,.l b,.i f]=>((Xd n a&&Xd m b)&&Wx e)&&Wx f
  | _=>false
def Ay.Sub.out:List Atom→DV
  | [.b n,.l a,.i e,.b m,.l b,.i f]=>.agg [.bool (Bj (Q8 (wv n a) e (- wv m b) f)),.ints .arg .u32 (Ap (Q8 (wv n a) e (- wv m b) f)),.int .i64 (Apu (wv n a) e (- wv m b) f)]
  | _=>.undef
def Ay.Sub.spec:Entry:=entry [.st [.b,.s .u32,.i .i64],.st [.b,.s .u32,.i .i64]] Ay.Sub.pre Ay.Sub.out
def Ay.Wu.pre:List Atom→Bool
  | [.b n,.l a,.i e]=>Jm n a&&Wx e
  | _=>false
def Ay.Wu.out:List Atom→DV
  | [.b n,.l a,.i e]=>.int .i64 (Il (wv n a) e)
  | _=>.undef
def Ay.Wu.spec:Entry:=entry [.st [.b,.s .u32,.i .i64]] Ay.Wu.pre Ay.Wu.out
def Ay.Sign.pre:List Atom→Bool
  | [.b n,.l a,.i _e]=>Jm n a
  | _=>false
def Ay.Sign.out:List Atom→DV
  | [.b n,.l a,.i _e]=>.int .i64 (Ni (wv n a))
  | _=>.undef
def Ay.Sign.spec:Entry:=entry [.st [.b,.s .u32,.i .i64]] Ay.Sign.pre Ay.Sign.out
def Ay.Compare.pre:List Atom→Bool
  | [.b n,.l a,.i e,.b m,.l b,.i f]=>((Xd n a&&Xd m b)&&Wx e)&&Wx f
  | _=>false
def Ay.Compare.out:List Atom→DV
  | [.b n,.l a,.i e,.b m,.l b,.i f]=>.int .i64 (W0 (wv n a) e (wv m b) f)
  | _=>.undef
def Ay.Compare.spec:Entry:=entry [.st [.b,.s .u32,.i .i64],.st [.b,.s .u32,.i .i64]] Ay.Compare.pre Ay.Compare.out
def A1.Value.pre:List Atom→Bool
  | [.i x]=>Af x
  | _=>false
def A1.Value.out:List Atom→DV
  | [.i x]=>.agg [.bool (Bj (mD (Fa x))),.ints .arg .u32 (Ap (mD (Fa x))),.int .i64 (eD (Fa x) (Bh x))]
  | _=>.undef
def A1.Value.spec:Entry:=entry [.i .u64] A1.Value.pre A1.Value.out
def compare.Mb.pre:List Atom→Bool
  | [.i b]=>Af b
  | _=>false
def compare.Mb.out:List Atom→DV
  | [.i b]=>.int .i64 (Aa3 b)
  | _=>.undef
def compare.Mb.spec:Entry:=entry [.i .u64] compare.Mb.pre compare.Mb.out
def compare.Order.pre:List Atom→Bool
  | [.i a,.i b]=>Af a&&Af b
  | _=>false
def compare.Order.out:List Atom→DV
  | [.i a,.i b]=>.tup [.int .i64 (Sy a b),.bool (Aa8 a b)]
  | _=>.undef
def compare.Order.spec:Entry:=entry [.i .u64,.i .u64] compare.Order.pre compare.Order.out
def compare.Ml.pre:List Atom→Bool
  | [.i a,.i b]=>Af a&&Af b
  | _=>false
def compare.Ml.out:List Atom→DV
  | [.i a,.i b]=>.bool (decide (Sy a b<0))
  | _=>.undef
def compare.Ml.spec:Entry:=entry [.i .u64,.i .u64] compare.Ml.pre compare.Ml.out
def compare.Hr.pre:List Atom→Bool
  | [.i a]=>Af a
  | _=>false
def compare.Hr.out:List Atom→DV
  | [.i a]=>.int .u64 (Je a)
  | _=>.undef
def compare.Hr.spec:Entry:=entry [.i .u64] compare.Hr.pre compare.Hr.out
def compare.E7.pre:List Atom→Bool
  | [.i a,.i n]=>Dh a n
  | _=>false
def compare.E7.out:List Atom→DV
  | [.i a,.i n]=>.tup [.int .u64 (By a n),.int .u8 (Aqj a n)]
  | _=>.undef
def compare.E7.spec:Entry:=entry [.i .u64,.i .i64] compare.E7.pre compare.E7.out
def Ae.Bs.pre:List Atom→Bool
  | [.i a,.i n]=>Dh a n
  | _=>false
def Ae.Bs.out:List Atom→DV
  | [.i a,.i n]=>.int .u64 (By a n)
  | _=>.undef
def Ae.Bs.spec:Entry:=entry [.i .u64,.i .i64] Ae.Bs.pre Ae.Bs.out
def Ae.Div.pre:List Atom→Bool
  | [.i a,.i b]=>Af a&&Af b
  | _=>false
def Ae.Div.out:List Atom→DV
  | [.i a,.i b]=>.int .u64 (Fc a b)
  | _=>.undef
def Ae.Div.spec:Entry:=entry [.i .u64,.i .u64] Ae.Div.pre Ae.Div.out
def Ae.Bo.pre:List Atom→Bool
  | [.l x]=>Cl x
  | _=>false
def Ae.Bo.out:List Atom→DV
  | [.l x]=>.int .u64 (Be x)
  | _=>.undef
def Ae.Bo.spec:Entry:=entry [.s .u64] Ae.Bo.pre Ae.Bo.out
def Ae.Finite.pre:List Atom→Bool
  | [.l x]=>Cl x
  | _=>false
def Ae.Finite.out:List Atom→DV
  | [.l x]=>.bool (Df x)
  | _=>.undef
def Ae.Finite.spec:Entry:=entry [.s .u64] Ae.Finite.pre Ae.Finite.out
def Cy.Check.pre:List Atom→Bool
  | [.i _r,.i _c,.l l]=>Ah l
  | _=>false
def Cy.Check.out:List Atom→DV
  | [.i r,.i c,.l l]=>.int .i64 (Cg r c l)
  | _=>.undef
def Cy.Check.spec:Entry:=entry [.st [.i .i64,.i .i64,.s .u64]] Cy.Check.pre Cy.Check.out
def solve.check.pre:List Atom→Bool
  | [.i _r,.i _c,.l l,.i _p,.i _q,.l m]=>Ah l&&Ah m
  | _=>false
def solve.check.out:List Atom→DV
  | [.i r,.i c,.l l,.i p,.i q,.l m]=>.int .i64 (N9 r c l p q m)
  | _=>.undef
def solve.check.spec:Entry:=entry [.st [.i .i64,.i .i64,.s .u64],.st [.i .i64,.i .i64,.s .u64]] solve.check.pre solve.check.out
def Gn.Gm.up.pre:List Atom→Bool
  | [.i n,.i k]=>Cz (0≤k∧k<n∧n≤10)
  | _=>false
def Gn.Gm.up.out:List Atom→DV
  | [.i n,.i k]=>.int .i64 (n-1-k)
  | _=>.undef
def Gn.Gm.up.spec:Entry:=entry [.i .i64,.i .i64] Gn.Gm.up.pre Gn.Gm.up.out
def solve.Es.pre:List Atom→Bool
  | [.i _i,.i _k]=>true
  | _=>false
def solve.Es.out:List Atom→DV
  | [.i i,.i k]=>.bool (decide (i<k))
  | _=>.undef
def solve.Es.spec:Entry:=entry [.i .i64,.i .i64] solve.Es.pre solve.Es.out
def Aa.of.Bf.own.pre:List Atom→Bool
  | [.i a,.i b]=>Bg a&&Bg b
  | _=>false
def Aa.of.Bf.own.out:List Atom→DV
  | [.i a,.i b]=>.agg [.int .i64 a,.int .i64 b,.ints (.own 108002 37) .u64 (B7 (Int.toNat a) (Int.toNat b) (fun _ _=>0))]
  | _=>.undef
def Aa.of.Bf.own.spec:Entry:=entry [.i .i64,.i .i64,.fn 205 []] Aa.of.Bf.own.pre Aa.of.Bf.own.out
def Aa.Bf.own.pre:List Atom→Bool
  | [.i a,.i b]=>Bg a&&Bg b
  | _=>false
def Aa.Bf.own.out:List Atom→DV
  | [.i a,.i b]=>.tup [.agg [.int .i64 a,.int .i64 b,.ints (.own 1136 37) .u64 (B7 (Int.toNat a) (Int.toNat b) (fun _ _=>0))],.int .i64 (0:Int)]
  | _=>.undef
def Aa.Bf.own.spec:Entry:=entry [.i .i64,.i .i64] Aa.Bf.own.pre Aa.Bf.own.out
def solve.Bx.Up.pre:List Atom→Bool
  | [.i r,.i c,.l l,.i p,.i q,.l m,.i n]=>Aca r c l p q m&&decide (n=r)
  | _=>false
def solve.Bx.Up.out:List Atom→DV
  | [.i r,.i c,.l l,.i _p,.i q,.l m,.i _n]=>.tup [.agg [.int .i64 ((Kj r q (upG c l q m (Int.toNat r) (Int.toNat q))).1),.int .i64 ((Kj r q (upG c l q m (Int.toNat r) (Int.toNat q))).2.1),.ints .fresh .u64 ((Kj r q (upG c l q m (Int.toNat r) (Int.toNat q))).2.2.1)],.int .i64 ((Kj r q (upG c l q m (Int.toNat r) (Int.toNat q))).2.2.2)]
  | _=>.undef
def solve.Bx.Up.spec:Entry:=entry [.st [.i .i64,.i .i64,.s .u64],.st [.i .i64,.i .i64,.s .u64],.fm 103 [.i .i64],.fn 104 []] solve.Bx.Up.pre solve.Bx.Up.out
def solve.Cq.pre:List Atom→Bool
  | [.i _r,.i _c,.l l,.i _p,.i _q,.l m]=>Ah l&&Ah m
  | _=>false
def solve.Cq.out:List Atom→DV
  | [.i r,.i c,.l l,.i p,.i q,.l m]=>.tup [.agg [.int .i64 ((Tq r c l p q m).1),.int .i64 ((Tq r c l p q m).2.1),.ints .fresh .u64 ((Tq r c l p q m).2.2.1)],.int .i64 ((Tq r c l p q m).2.2.2)]
  | _=>.undef
def solve.Cq.spec:Entry:=entry [.st [.i .i64,.i .i64,.s .u64],.st [.i .i64,.i .i64,.s .u64]] solve.Cq.pre solve.Cq.out
def solve.Flat.pre:List Atom→Bool
  | [.i _r,.i _c,.l l]=>Ah l
  | _=>false
def solve.Flat.out:List Atom→DV
  | [.i r,.i c,.l l]=>.tup [.bool ((O2 r c l).1),.int .i64 ((O2 r c l).2)]
  | _=>.undef
def solve.Flat.spec:Entry:=entry [.st [.i .i64,.i .i64,.s .u64]] solve.Flat.pre solve.Flat.out
def qr.Fx.pre:List Atom→Bool
  | [.i _r,.i _c,.l l,.i _p,.i _q,.l m]=>Ah l&&Ah m
  | _=>false
def qr.Fx.out:List Atom→DV
  | [.i r,.i c,.l l,.i p,.i q,.l m]=>.tup [.agg [.int .i64 ((Dv r c l p q m).1),.int .i64 ((Dv r c l p q m).2.1),.ints .fresh .u64 ((Dv r c l p q m).2.2.1)],.int .i64 ((Dv r c l p q m).2.2.2)]
  | _=>.undef
def qr.Fx.spec:Entry:=entry [.st [.i .i64,.i .i64,.s .u64],.st [.i .i64,.i .i64,.s .u64]] qr.Fx.pre qr.Fx.out
def Ag.Div.pre:List Atom→Bool
  | [.i a,.i b]=>Af a&&Af b
  | _=>false
def Ag.Div.out:List Atom→DV
  | [.i a,.i b]=>.int .u64 (Fc a b)
  | _=>.undef
def Ag.Div.spec:Entry:=entry [.i .u64,.i .u64] Ag.Div.pre Ag.Div.out
def Ag.Finite.pre:List Atom→Bool
  | [.l x]=>Cl x
  | _=>false
def Ag.Finite.out:List Atom→DV
  | [.l x]=>.bool (Df x)
  | _=>.undef
def Ag.Finite.spec:Entry:=entry [.s .u64] Ag.Finite.pre Ag.Finite.out
def Gw.Check.pre:List Atom→Bool
  | [.i _r,.i _c,.l l]=>Ah l
  | _=>false
def Gw.Check.out:List Atom→DV
  | [.i r,.i c,.l l]=>.int .i64 (Cg r c l)
  | _=>.undef
def Gw.Check.spec:Entry:=entry [.st [.i .i64,.i .i64,.s .u64]] Gw.Check.pre Gw.Check.out
def A7.Check.pre:List Atom→Bool
  | [.i _r,.i _c,.l l,.i _p,.i _q,.l m]=>Ah l&&Ah m
  | _=>false
def A7.Check.out:List Atom→DV
  | [.i r,.i c,.l l,.i p,.i q,.l m]=>.int .i64 (N9 r c l p q m)
  | _=>.undef
def A7.Check.spec:Entry:=entry [.st [.i .i64,.i .i64,.s .u64],.st [.i .i64,.i .i64,.s .u64]] A7.Check.pre A7.Check.out
def A7.finite.pre:List Atom→Bool
  | [.i r,.i c,.l l]=>Ah l&&A0 r c l
  | _=>false
def A7.finite.out:List Atom→DV
  | [.i r,.i c,.l l]=>.tup [.agg [.int .i64 ((Kj r c l).1),.int .i64 ((Kj r c l).2.1),.ints .arg .u64 ((Kj r c l).2.2.1)],.int .i64 ((Kj r c l).2.2.2)]
  | _=>.undef
def A7.finite.spec:Entry:=entry [.st [.i .i64,.i .i64,.s .u64]] A7.finite.pre A7.finite.out
def A7.Cq.pre:List Atom→Bool
  | [.i _r,.i _c,.l l,.i _p,.i _q,.l m]=>Ah l&&Ah m
  | _=>false
def A7.Cq.out:List Atom→DV
  | [.i r,.i c,.l l,.i p,.i q,.l m]=>.tup [.agg [.int .i64 ((Tq r c l p q m).1),.int .i64 ((Tq r c l p q m).2.1),.ints .arg .u64 ((Tq r c l p q m).2.2.1)],.int .i64 ((Tq r c l p q m).2.2.2)]
  | _=>.undef
def A7.Cq.spec:Entry:=entry [.st [.i .i64,.i .i64,.s .u64],.st [.i .i64,.i .i64,.s .u64]] A7.Cq.pre A7.Cq.out
def math.Hr.pre:List Atom→Bool
  | [.f _x]=>true
  | _=>false
def math.Hr.out:List Atom→DV
  | [.f x]=>.fl (G9 x)
  | _=>.undef
def math.Hr.spec:Entry:=entry [.fl] math.Hr.pre math.Hr.out
def math.Ig.pre:List Atom→Bool
  | [.f x]=>Tl x
  | _=>false
def math.Ig.out:List Atom→DV
  | [.f x]=>.bool (decide (Am x=4))
  | _=>.undef
def math.Ig.spec:Entry:=entry [.fl] math.Ig.pre math.Ig.out
def math.Ih.pre:List Atom→Bool
  | [.f x,.i s]=>Tl x&&decide (s=0)
  | _=>false
def math.Ih.out:List Atom→DV
  | [.f x,.i _s]=>.bool (decide (Am x=3))
  | _=>.undef
def math.Ih.spec:Entry:=entry [.fl,.i .i64] math.Ih.pre math.Ih.out
def math.normalize.pre:List Atom→Bool
  | [.f x]=>Afx x
  | _=>false
def math.normalize.out:List Atom→DV
  | [.f x]=>.tup [.fl (Mc x),.int .i64 (I4 x)]
  | _=>.undef
def math.normalize.spec:Entry:=entry [.fl] math.normalize.pre math.normalize.out
def math.D5.pre:List Atom→Bool
  | [.f x,.f y]=>Afx y&&decide (x=0)
  | _=>false
def math.D5.out:List Atom→DV
  | [.f _x,.f y]=>.fl (Bl (Bt y) 0)
  | _=>.undef
def math.D5.spec:Entry:=entry [.fl,.fl] math.D5.pre math.D5.out
def math.Xn.pre:List Atom→Bool
  | [.i _s]=>true
  | _=>false
def math.Xn.out:List Atom→DV
  | [.i s]=>.fl (Bl (decide (s<0)) Eb)
  | _=>.undef
def math.Xn.spec:Entry:=entry [.i .i64] math.Xn.pre math.Xn.out
def math.He.pre:List Atom→Bool
  | [.f x,.i k]=>Tl x&&Cz (-2300≤k∧k≤2300)
  | _=>false
def math.He.out:List Atom→DV
  | [.f x,.i k]=>.fl (It x k)
  | _=>.undef
def math.He.spec:Entry:=entry [.fl,.i .i64] math.He.pre math.He.out
def math.Iz.pre:List Atom→Bool
  | [.f x,.i k]=>Tl x&&Cz (-2300≤k∧k≤2300)
  | _=>false
def math.Iz.out:List Atom→DV
  | [.f x,.i k]=>.fl (It x k)
  | _=>.undef
def math.Iz.spec:Entry:=entry [.fl,.i .i64] math.Iz.pre math.Iz.out
def Ag.Bs.pre:List Atom→Bool
  | [.i a,.i k]=>Dh a k
  | _=>false
def Ag.Bs.out:List Atom→DV
  | [.i a,.i k]=>.int .u64 (By a k)
  | _=>.undef
def Ag.Bs.spec:Entry:=entry [.i .u64,.i .i64] Ag.Bs.pre Ag.Bs.out
def Bp.ends.pre:List Atom→Bool
  | [.i b]=>Af b
  | _=>false
def Bp.ends.out:List Atom→DV
  | [.i b]=>.int .i64 (Qz b)
  | _=>.undef
def Bp.ends.spec:Entry:=entry [.i .u64] Bp.ends.pre Bp.ends.out
def Bp.Order.pre:List Atom→Bool
  | [.i a,.i b]=>Af a&&Af b
  | _=>false
def Bp.Order.out:List Atom→DV
  | [.i a,.i b]=>.tup [.int .i64 (Sy a b),.bool (Aa8 a b)]
  | _=>.undef
def Bp.Order.spec:Entry:=entry [.i .u64,.i .u64] Bp.Order.pre Bp.Order.out
def Bp.Hr.pre:List Atom→Bool
  | [.i a]=>Af a
  | _=>false
def Bp.Hr.out:List Atom→DV
  | [.i a]=>.int .u64 (Je a)
  | _=>.undef
def Bp.Hr.spec:Entry:=entry [.i .u64] Bp.Hr.pre Bp.Hr.out
def Bp.Max.pre:List Atom→Bool
  | [.i a,.i b]=>Af a&&Af b
  | _=>false
def Bp.Max.out:List Atom→DV
  | [.i a,.i b]=>.int .u64 (Ow a b)
  | _=>.undef
def Bp.Max.spec:Entry:=entry [.i .u64,.i .u64] Bp.Max.pre Bp.Max.out
def A7.Flat.pre:List Atom→Bool
  | [.i r,.i c,.l l]=>(A0 r c l&&Ah l)&&Df l
  | _=>false
def A7.Flat.out:List Atom→DV
  | [.i r,.i c,.l l]=>.bool (Qx r c l)
  | _=>.undef
def A7.Flat.spec:Entry:=entry [.st [.i .i64,.i .i64,.s .u64]] A7.Flat.pre A7.Flat.out
def root.Gx.pre:List Atom→Bool
  | [.i m]=>Cz (0≤m∧m<9223372036854775808)
  | _=>false
def root.Gx.out:List Atom→DV
  | [.i m]=>.tup [.int .u64 (Uq m),.bool (Ur m)]
  | _=>.undef
def root.Gx.spec:Entry:=entry [.i .u64] root.Gx.pre root.Gx.out
def root.Sqrt.pre:List Atom→Bool
  | [.i a]=>Af a
  | _=>false
def root.Sqrt.out:List Atom→DV
  | [.i a]=>.tup [.int .u64 (Fu a),.int .u8 (Qg a)]
  | _=>.undef
def root.Sqrt.spec:Entry:=entry [.i .u64] root.Sqrt.pre root.Sqrt.out
def Ae.Sqrt.pre:List Atom→Bool
  | [.i a]=>Af a
  | _=>false
def Ae.Sqrt.out:List Atom→DV
  | [.i a]=>.int .u64 (Fu a)
  | _=>.undef
def Ae.Sqrt.spec:Entry:=entry [.i .u64] Ae.Sqrt.pre Ae.Sqrt.out
def compare.Lu.pre:List Atom→Bool
  | [.i a]=>Af a
  | _=>false
def compare.Lu.out:List Atom→DV
  | [.i a]=>.int .i64 (Br a)
  | _=>.undef
def compare.Lu.spec:Entry:=entry [.i .u64] compare.Lu.pre compare.Lu.out
def Ae.Norm.pre:List Atom→Bool
  | [.l x]=>Cl x&&Cz (List.length x≤64)
  | _=>false
def Ae.Norm.out:List Atom→DV
  | [.l x]=>.tup [.int .u64 (Dk x),.int .i64 (0:Int)]
  | _=>.undef
def Ae.Norm.spec:Entry:=entry [.s .u64] Ae.Norm.pre Ae.Norm.out
def Au.Bz.pre:List Atom→Bool
  | [.l x]=>Cl x
  | _=>false
def Au.Bz.out:List Atom→DV
  | [.l x]=>.bool (Ed x)
  | _=>.undef
def Au.Bz.spec:Entry:=entry [.s .u64] Au.Bz.pre Au.Bz.out
def Au.lead.pre:List Atom→Bool
  | [.l x]=>Cl x
  | _=>false
def Au.lead.out:List Atom→DV
  | [.l x]=>.int .u64 (Oy x)
  | _=>.undef
def Au.lead.spec:Entry:=entry [.s .u64] Au.lead.pre Au.lead.out
def Au.Dl.pre:List Atom→Bool
  | [.l x,.i k]=>Cl x&&Cz (List.length x≤1000∧-2300≤k∧k≤2300)
  | _=>false
def Au.Dl.out:List Atom→DV
  | [.l x,.i k]=>.ints .fresh .u64 (Bn x k)
  | _=>.undef
def Au.Dl.spec:Entry:=entry [.s .u64,.i .i64] Au.Dl.pre Au.Dl.out
def Au.F2.pre:List Atom→Bool
  | [.i _i]=>true
  | _=>false
def Au.F2.out:List Atom→DV
  | [.i _i]=>.int .u64 (0:Int)
  | _=>.undef
def Au.F2.spec:Entry:=entry [.i .i64] Au.F2.pre Au.F2.out
def Au.F1.pre:List Atom→Bool
  | [.i i,.l y,.i d]=>(Cz (0≤i∧i<List.length y)&&Ah y)&&Af d
  | _=>false
def Au.F1.out:List Atom→DV
  | [.i i,.l y,.i d]=>.int .u64 (Fc (List.getD y (Int.toNat i) 0) d)
  | _=>.undef
def Au.F1.spec:Entry:=entry [.i .i64,.cp [.s .u64],.cp [.i .u64]] Au.F1.pre Au.F1.out
def Au.row.Zero.pre:List Atom→Bool
  | [.i n]=>Cz (1≤n∧n≤64)
  | _=>false
def Au.row.Zero.out:List Atom→DV
  | [.i n]=>.ints .fresh .u64 (Jd (Int.toNat n) (fun _=>0))
  | _=>.undef
def Au.row.Zero.spec:Entry:=entry [.i .i64,.fn 254 []] Au.row.Zero.pre Au.row.Zero.out
def Au.row.Div.pre:List Atom→Bool
  | [.i n,.l y,.i d]=>(Cz (1≤n∧n≤64∧n=List.length y)&&Ah y)&&Af d
  | _=>false
def Au.row.Div.out:List Atom→DV
  | [.i n,.l y,.i d]=>.ints .fresh .u64 (Jd (Int.toNat n) (fun j=>Fc (List.getD y j 0) d))
  | _=>.undef
def Au.row.Div.spec:Entry:=entry [.i .i64,.fn 259 [.cp [.s .u64],.cp [.i .u64]]] Au.row.Div.pre Au.row.Div.out
def Au.Dq.pre:List Atom→Bool
  | [.l x]=>Cl x
  | _=>false
def Au.Dq.out:List Atom→DV
  | [.l x]=>.tup [.ints .fresh .u64 ((Cm x).1),.int .u64 ((Cm x).2.1),.int .u64 ((Cm x).2.2.1),.int .i64 ((Cm x).2.2.2)]
  | _=>.undef
def Au.Dq.spec:Entry:=entry [.s .u64] Au.Dq.pre Au.Dq.out
def Au.Apply.pre:List Atom→Bool
  | [.i r,.i c,.l l,.i i,.i k,.l v,.i t]=>((A0 r c l&&Ho r c i k v)&&(Ah l&&Ah v))&&Af t
  | _=>false
def Au.Apply.out:List Atom→DV
  | [.i r,.i c,.l l,.i i,.i k,.l v,.i t]=>.tup [.agg [.int .i64 r,.int .i64 c,.ints (.own 114002 37) .u64 (E9 (Int.toNat r) (Int.toNat c) l i k v t)],.int .i64 (0:Int)]
  | _=>.undef
def Au.Apply.spec:Entry:=entry [.st [.i .i64,.i .i64,.s .u64],.i .i64,.i .i64,.s .u64,.i .u64] Au.Apply.pre Au.Apply.out
def qr.down.pre:List Atom→Bool
  | [.i r,.i c,.l l]=>(A0 r c l&&Df l)&&Ah l
  | _=>false
def qr.down.out:List Atom→DV
  | [.i r,.i c,.l l]=>.tup [.agg [.int .i64 ((F8 r c l).1),.int .i64 ((F8 r c l).2.1),.ints .arg .u64 ((F8 r c l).2.2.1)],.recs .fresh 2 (Ky r c l),.int .i64 ((F8 r c l).2.2.2)]
  | _=>.undef
def qr.down.spec:Entry:=entry [.st [.i .i64,.i .i64,.s .u64]] qr.down.pre qr.down.out
def qr.B2.pre:List Atom→Bool
  | [.i _r,.i _c,.l l]=>Ah l
  | _=>false
def qr.B2.out:List Atom→DV
  | [.i r,.i c,.l l]=>.tup [.agg [.int .i64 ((qX r c l).1),.int .i64 ((qX r c l).2.1),.ints .arg .u64 ((qX r c l).2.2.1)],.agg [.int .i64 ((rX r c l).1),.int .i64 ((rX r c l).2.1),.ints .arg .u64 ((rX r c l).2.2.1)],.int .i64 (E8 r c l)]
  | _=>.undef
def qr.B2.spec:Entry:=entry [.st [.i .i64,.i .i64,.s .u64]] qr.B2.pre qr.B2.out
def qr.Gb.pre:List Atom→Bool
  | [.i _r,.i _c,.l l]=>Ah l
  | _=>false
def qr.Gb.out:List Atom→DV
  | [.i r,.i c,.l l]=>.tup [.agg [.int .i64 ((Ea r c l).1),.int .i64 ((Ea r c l).2.1),.ints .fresh .u64 ((Ea r c l).2.2.1)],.agg [.int .i64 ((Ij r c l).1),.int .i64 ((Ij r c l).2.1),.ints .fresh .u64 ((Ij r c l).2.2.1)],.int .i64 (E8 r c l)]
  | _=>.undef
def qr.Gb.spec:Entry:=entry [.st [.i .i64,.i .i64,.s .u64]] qr.Gb.pre qr.Gb.out
def solve.D4.pre:List Atom→Bool
  | [.i _r,.i _c,.l l,.i _p,.i _q,.l m]=>Ah l&&Ah m
  | _=>false
def solve.D4.out:List Atom→DV
  | [.i r,.i c,.l l,.i p,.i q,.l m]=>.tup [.agg [.int .i64 ((Fo r c l p q m).1),.int .i64 ((Fo r c l p q m).2.1),.ints .fresh .u64 ((Fo r c l p q m).2.2.1)],.int .i64 ((Fo r c l p q m).2.2.2)]
  | _=>.undef
def solve.D4.spec:Entry:=entry [.st [.i .i64,.i .i64,.s .u64],.st [.i .i64,.i .i64,.s .u64]] solve.D4.pre solve.D4.out
def Bp.Lu.pre:List Atom→Bool
  | [.i a]=>Af a
  | _=>false
def Bp.Lu.out:List Atom→DV
  | [.i a]=>.int .i64 (Br a)
  | _=>.undef
def Bp.Lu.spec:Entry:=entry [.i .u64] Bp.Lu.pre Bp.Lu.out
def Ag.Bo.pre:List Atom→Bool
  | [.l x]=>Cl x
  | _=>false
def Ag.Bo.out:List Atom→DV
  | [.l x]=>.int .u64 (Be x)
  | _=>.undef
def Ag.Bo.spec:Entry:=entry [.s .u64] Ag.Bo.pre Ag.Bo.out
def math.Sqrt.pre:List Atom→Bool
  | [.f _x]=>true
  | _=>false
def math.Sqrt.out:List Atom→DV
  | [.f x]=>.fl (((Ieee.double.sqrt x).getD nanBits))
  | _=>.undef
def math.Sqrt.spec:Entry:=entry [.fl] math.Sqrt.pre math.Sqrt.out
def Ag.Sqrt.pre:List Atom→Bool
  | [.i a]=>Af a
  | _=>false
def Ag.Sqrt.out:List Atom→DV
  | [.i a]=>.int .u64 (Fu a)
  | _=>.undef
def Ag.Sqrt.spec:Entry:=entry [.i .u64] Ag.Sqrt.pre Ag.Sqrt.out
def Ag.Norm.pre:List Atom→Bool
  | [.l x]=>Cl x
  | _=>false
def Ag.Norm.out:List Atom→DV
  | [.l x]=>.int .u64 (Dk x)
  | _=>.undef
def Ag.Norm.spec:Entry:=entry [.s .u64] Ag.Norm.pre Ag.Norm.out
def Bb.Bz.pre:List Atom→Bool
  | [.l x]=>Cl x
  | _=>false
def Bb.Bz.out:List Atom→DV
  | [.l x]=>.bool (Ed (List.drop 1 x))
  | _=>.undef
def Bb.Bz.spec:Entry:=entry [.s .u64] Bb.Bz.pre Bb.Bz.out
def Bb.lead.pre:List Atom→Bool
  | [.l x]=>Cl x
  | _=>false
def Bb.lead.out:List Atom→DV
  | [.l x]=>.int .i64 (P5 x 0)
  | _=>.undef
def Bb.lead.spec:Entry:=entry [.s .u64] Bb.lead.pre Bb.lead.out
def Bb.Dq.pre:List Atom→Bool
  | [.l x]=>Cl x&&Cz (1≤List.length x∧List.length x≤64)
  | _=>false
def Bb.Dq.out:List Atom→DV
  | [.l x]=>.tup [.agg [.ints .fresh .u64 ((Jo x).1),.int .u64 ((Jo x).2.1),.int .u64 ((Jo x).2.2.1)],.bool (decide ((Jo x).2.2.2=0))]
  | _=>.undef
def Bb.Dq.spec:Entry:=entry [.s .u64] Bb.Dq.pre Bb.Dq.out
def Bb.Apply.pre:List Atom→Bool
  | [.i r,.i c,.l l,.i i,.i k,.l v,.i t]=>((A0 r c l&&Ho r c i k v)&&(Ah l&&Ah v))&&Af t
  | _=>false
def Bb.Apply.out:List Atom→DV
  | [.i r,.i c,.l l,.i i,.i k,.l v,.i t]=>.agg [.int .i64 r,.int .i64 c,.ints .arg .u64 (E9 (Int.toNat r) (Int.toNat c) l i k v t)]
  | _=>.undef
def Bb.Apply.spec:Entry:=entry [.st [.i .i64,.i .i64,.s .u64],.i .i64,.i .i64,.s .u64,.i .u64] Bb.Apply.pre Bb.Apply.out
def B6.Dm.pre:List Atom→Bool
  | [.i r,.i c,.l l,.i j,.i _b]=>A0 r c l&&Cz (0≤j∧j<r∧j<c)
  | _=>false
def B6.Dm.out:List Atom→DV
  | [.i r,.i c,.l l,.i j,.i b]=>.agg [.int .i64 r,.int .i64 c,.ints .arg .u64 (Na (Int.toNat r) (Int.toNat c) l (Int.toNat j) b)]
  | _=>.undef
def B6.Dm.spec:Entry:=entry [.st [.i .i64,.i .i64,.s .u64],.i .i64,.i .u64] B6.Dm.pre B6.Dm.out
def B6.B2.pre:List Atom→Bool
  | [.i r,.i c,.l l]=>(A0 r c l&&Df l)&&Ah l
  | _=>false
def B6.B2.out:List Atom→DV
  | [.i r,.i c,.l l]=>.agg [.int .i64 ((qX r c l).1),.int .i64 ((qX r c l).2.1),.ints .arg .u64 ((qX r c l).2.2.1),.int .i64 ((rX r c l).1),.int .i64 ((rX r c l).2.1),.ints .arg .u64 ((rX r c l).2.2.1),.bool (decide (E8 r c l=0))]
  | _=>.undef
def B6.B2.spec:Entry:=entry [.st [.i .i64,.i .i64,.s .u64]] B6.B2.pre B6.B2.out
def B6.Gb.pre:List Atom→Bool
  | [.i r,.i c,.l l]=>(A0 r c l&&Df l)&&Ah l
  | _=>false
def B6.Gb.out:List Atom→DV
  | [.i r,.i c,.l l]=>.agg [.int .i64 ((Ea r c l).1),.int .i64 ((Ea r c l).2.1),.ints .arg .u64 ((Ea r c l).2.2.1),.int .i64 ((Ij r c l).1),.int .i64 ((Ij r c l).2.1),.ints .arg .u64 ((Ij r c l).2.2.1),.bool (decide (E8 r c l=0))]
  | _=>.undef
def B6.Gb.spec:Entry:=entry [.st [.i .i64,.i .i64,.s .u64]] B6.Gb.pre B6.Gb.out
def A7.D4.pre:List Atom→Bool
  | [.i _r,.i _c,.l l,.i _p,.i _q,.l m]=>Ah l&&Ah m
  | _=>false
def A7.D4.out:List Atom→DV
  | [.i r,.i c,.l l,.i p,.i q,.l m]=>.tup [.agg [.int .i64 ((Fo r c l p q m).1),.int .i64 ((Fo r c l p q m).2.1),.ints .arg .u64 ((Fo r c l p q m).2.2.1)],.int .i64 ((Fo r c l p q m).2.2.2)]
  | _=>.undef
def A7.D4.spec:Entry:=entry [.st [.i .i64,.i .i64,.s .u64],.st [.i .i64,.i .i64,.s .u64]] A7.D4.pre A7.D4.out
def Aj.Stack.pre:List Atom→Bool
  | [.i r,.i c,.l l,.i p,.i q,.l m]=>(A0 r c l&&A0 p q m)&&decide (q=c)
  | _=>false
def Aj.Stack.out:List Atom→DV
  | [.i r,.i c,.l l,.i p,.i _q,.l m]=>.agg [.int .i64 (r+p),.int .i64 c,.ints .fresh .u64 (l++m)]
  | _=>.undef
def Aj.Stack.spec:Entry:=entry [.st [.i .i64,.i .i64,.s .u64],.st [.i .i64,.i .i64,.s .u64]] Aj.Stack.pre Aj.Stack.out
def Ayo.Hx.pre:List Atom→Bool
  | []=>true
  | _=>false
def gglm.Check.pre:List Atom→Bool
  | [.i _r,.i _c,.l l,.i _p,.i _q,.l m,.i _u,.i _v,.l h]=>I7 l m h
  | _=>false
def Ae.Et.pre:List Atom→Bool
  | [.i i,.i x,.l l]=>(Cz (0≤i∧i<List.length l)&&Ah l)&&Af x
  | _=>false
def Ae.Et.out:List Atom→DV
  | [.i i,.i x,.l l]=>.int .u64 (D3 x (List.getD l (Int.toNat i) 0))
  | _=>.undef
def Ae.Et.spec:Entry:=entry [.i .i64,.cp [.i .u64],.cp [.s .u64]] Ae.Et.pre Ae.Et.out
def Ae.each.Cc.pre:List Atom→Bool
  | [.i n,.i x,.l l]=>((Cz (0≤n∧n≤64∧n=List.length l))&&Ah l)&&Af x
  | _=>false
def Ae.each.Cc.out:List Atom→DV
  | [.i _n,.i x,.l l]=>.ints .fresh .u64 (C4 x l)
  | _=>.undef
def Ae.each.Cc.spec:Entry:=entry [.i .i64,.fn 203 [.cp [.i .u64],.cp [.s .u64]]] Ae.each.Cc.pre Ae.each.Cc.out
def Ae.Cc.pre:List Atom→Bool
  | [.i x,.l l]=>(Cl l&&Af x)&&Cz (List.length l≤64)
  | _=>false
def Ae.Cc.out:List Atom→DV
  | [.i x,.l l]=>.tup [.ints .fresh .u64 (C4 x l),.int .i64 (0:Int)]
  | _=>.undef
def Ae.Cc.spec:Entry:=entry [.i .u64,.s .u64] Ae.Cc.pre Ae.Cc.out
def Ck.Dc.pre:List Atom→Bool
  | [.i _r,.i _c,.l l,.i _p,.i _q,.l m,.i _u,.i _v,.l h]=>I7 l m h
  | _=>false
def Ck.Dc.out:List Atom→DV
  | [.i r,.i c,.l l,.i p,.i q,.l m,.i u,.i v,.l h]=>.int .i64 (Nb r c l p q m u v h)
  | _=>.undef
def Ck.Dc.spec:Entry:=entry [.rs 3 [[.i .i64,.i .i64,.s .u64],[.i .i64,.i .i64,.s .u64],[.i .i64,.i .i64,.s .u64]]] Ck.Dc.pre Ck.Dc.out
def Ck.Fp.pre:List Atom→Bool
  | [.i _r,.i _c,.l l,.i _p,.i _q,.l m,.i _u,.i _v,.l h,.i x]=>I7 l m h&&Af x
  | _=>false
def Ck.Fp.out:List Atom→DV
  | [.i r,.i c,.l l,.i p,.i q,.l m,.i u,.i v,.l h,.i x]=>.tup [.agg [.int .i64 ((Bi r c l p q m u v h x).1),.int .i64 ((Bi r c l p q m u v h x).2.1),.ints .fresh .u64 ((Bi r c l p q m u v h x).2.2.1)],.int .i64 ((Bi r c l p q m u v h x).2.2.2)]
  | _=>.undef
def Ck.Fp.spec:Entry:=entry [.st [.i .i64,.i .i64,.s .u64],.st [.i .i64,.i .i64,.s .u64],.st [.i .i64,.i .i64,.s .u64],.i .u64] Ck.Fp.pre Ck.Fp.out
def Ck.I8.pre:List Atom→Bool
  | [.i _r,.i _c,.l l,.i _p,.i _q,.l m,.i _u,.i _v,.l h,.l y]=>I7 l m h&&Ah y
  | _=>false
def Ck.I8.out:List Atom→DV
  | [.i r,.i c,.l l,.i p,.i q,.l m,.i u,.i v,.l h,.l y]=>.tup [.recs .fresh 3 (Dg (Bi r c l p q m u v h) y),.int .i64 (C1 (Bi r c l p q m u v h) y)]
  | _=>.undef
def Ck.I8.spec:Entry:=entry [.st [.i .i64,.i .i64,.s .u64],.st [.i .i64,.i .i64,.s .u64],.st [.i .i64,.i .i64,.s .u64],.s .u64] Ck.I8.pre Ck.I8.out
def Ag.Cc.pre:List Atom→Bool
  | [.i x,.l l]=>(Cl l&&Af x)&&Cz (List.length l≤64)
  | _=>false
def Ag.Cc.out:List Atom→DV
  | [.i x,.l l]=>.ints .fresh .u64 (C4 x l)
  | _=>.undef
def Ag.Cc.spec:Entry:=entry [.i .u64,.s .u64] Ag.Cc.pre Ag.Cc.out
def Bu.Dc.pre:List Atom→Bool
  | [.i _r,.i _c,.l l,.i _p,.i _q,.l m,.i _u,.i _v,.l h]=>I7 l m h
  | _=>false
def Bu.Dc.out:List Atom→DV
  | [.i r,.i c,.l l,.i p,.i q,.l m,.i u,.i v,.l h]=>.int .i64 (Nb r c l p q m u v h)
  | _=>.undef
def Bu.Dc.spec:Entry:=entry [.st [.i .i64,.i .i64,.s .u64],.st [.i .i64,.i .i64,.s .u64],.st [.i .i64,.i .i64,.s .u64]] Bu.Dc.pre Bu.Dc.out
def Bu.Z4.pre:List Atom→Bool
  | [.i r,.i c,.l l,.i u,.i v,.l h,.i x]=>((A0 r c l&&A0 u v h)&&(Ah h&&Af x))&&decide (v=c)
  | _=>false
def Bu.Z4.out:List Atom→DV
  | [.i r,.i c,.l l,.i u,.i _v,.l h,.i x]=>.agg [.int .i64 (r+u),.int .i64 c,.ints .fresh .u64 (l++C4 x h)]
  | _=>.undef
def Bu.Z4.spec:Entry:=entry [.st [.i .i64,.i .i64,.s .u64],.st [.i .i64,.i .i64,.s .u64],.i .u64] Bu.Z4.pre Bu.Z4.out
def Bu.Nh.pre:List Atom→Bool
  | [.i p,.i q,.l m,.i u,.i _v,.l _h]=>(A0 p q m&&Bg u)&&decide (q=1)
  | _=>false
def Bu.Nh.out:List Atom→DV
  | [.i p,.i _q,.l m,.i u,.i _v,.l _h]=>.agg [.int .i64 (p+u),.int .i64 (1:Int),.ints .fresh .u64 (m++List.replicate (Int.toNat u) 0)]
  | _=>.undef
def Bu.Nh.spec:Entry:=entry [.st [.i .i64,.i .i64,.s .u64],.st [.i .i64,.i .i64,.s .u64]] Bu.Nh.pre Bu.Nh.out
def Bu.Dr.pre:List Atom→Bool
  | [.i _r,.i _c,.l l,.i _p,.i _q,.l m,.i _u,.i _v,.l h,.i x]=>I7 l m h&&Af x
  | _=>false
def Bu.Dr.out:List Atom→DV
  | [.i r,.i c,.l l,.i p,.i q,.l m,.i u,.i v,.l h,.i x]=>.int .i64 (Oi r c l p q m u v h x)
  | _=>.undef
def Bu.Dr.spec:Entry:=entry [.st [.i .i64,.i .i64,.s .u64],.st [.i .i64,.i .i64,.s .u64],.st [.i .i64,.i .i64,.s .u64],.i .u64] Bu.Dr.pre Bu.Dr.out
def Bu.Fp.pre:List Atom→Bool
  | [.i _r,.i _c,.l l,.i _p,.i _q,.l m,.i _u,.i _v,.l h,.i x]=>I7 l m h&&Af x
  | _=>false
def Bu.Fp.out:List Atom→DV
  | [.i r,.i c,.l l,.i p,.i q,.l m,.i u,.i v,.l h,.i x]=>.tup [.agg [.int .i64 ((Bi r c l p q m u v h x).1),.int .i64 ((Bi r c l p q m u v h x).2.1),.ints .arg .u64 ((Bi r c l p q m u v h x).2.2.1)],.int .i64 ((Bi r c l p q m u v h x).2.2.2)]
  | _=>.undef
def Bu.Fp.spec:Entry:=entry [.st [.i .i64,.i .i64,.s .u64],.st [.i .i64,.i .i64,.s .u64],.st [.i .i64,.i .i64,.s .u64],.i .u64] Bu.Fp.pre Bu.Fp.out
def B1.one.pre:List Atom→Bool
  | [.i _b]=>true
  | _=>false
def B1.one.out:List Atom→DV
  | [.i b]=>.agg [.int .i64 (1:Int),.int .i64 (1:Int),.ints .fresh .u64 ([b])]
  | _=>.undef
def B1.one.spec:Entry:=entry [.i .u64] B1.one.pre B1.one.out
def B1.Hx.pre:List Atom→Bool
  | []=>true
  | _=>false
def B1.Hx.out:List Atom→DV
  | []=>.bool true
  | _=>.undef
def B1.Hx.spec:Entry:=entry [] B1.Hx.pre B1.Hx.out
def B1.Cf.pre:List Atom→Bool
  | [.i _r,.i _c,.l l,.i _p,.i _q,.l m,.i _u,.i _v,.l h,.l y,.i _e]=>I7 l m h&&Cl y
  | _=>false
def B1.Cf.out:List Atom→DV
  | [.i r,.i c,.l l,.i p,.i q,.l m,.i u,.i v,.l h,.l y,.i e]=>.bool (Jc (Bi r c l p q m u v h) y e)
  | _=>.undef
def B1.Cf.spec:Entry:=entry [.st [.i .i64,.i .i64,.s .u64,.i .i64,.i .i64,.s .u64,.i .i64,.i .i64,.s .u64],.s .u64,.i .i64] B1.Cf.pre B1.Cf.out
def B1.Cj.pre:List Atom→Bool
  | [.i _r,.i _c,.l l,.i _p,.i _q,.l m,.i _u,.i _v,.l h,.l y]=>(I7 l m h&&Ah y)&&((Lg l&&Lg m)&&(Lg h&&Lg y))
  | _=>false
def B1.Cj.out:List Atom→DV
  | [.i _r,.i _c,.l _l,.i _p,.i _q,.l _m,.i _u,.i _v,.l _h,.l _y]=>.bool true
  | _=>.undef
def B1.Cj.spec:Entry:=entry [.st [.i .i64,.i .i64,.s .u64,.i .i64,.i .i64,.s .u64,.i .i64,.i .i64,.s .u64],.s .u64] B1.Cj.pre B1.Cj.out
def Aj.Ga.arg.pre:List Atom→Bool
  | [.i r,.i c,.l l,.i i,.i k,.i _b]=>C2 r c l i k
  | _=>false
def Aj.Ga.arg.out:List Atom→DV
  | [.i r,.i c,.l l,.i i,.i k,.i b]=>.agg [.int .i64 r,.int .i64 c,.ints .arg .u64 (List.set l (Int.toNat (i*c+k)) b)]
  | _=>.undef
def Aj.Ga.arg.spec:Entry:=entry [.st [.i .i64,.i .i64,.s .u64],.i .i64,.i .i64,.i .u64] Aj.Ga.arg.pre Aj.Ga.arg.out
def Aj.Ey.arg.pre:List Atom→Bool
  | [.i n]=>Bg n
  | _=>false
def Aj.Ey.arg.out:List Atom→DV
  | [.i n]=>.agg [.int .i64 n,.int .i64 n,.ints .arg .u64 (I5 (Int.toNat n))]
  | _=>.undef
def Aj.Ey.arg.spec:Entry:=entry [.i .i64] Aj.Ey.arg.pre Aj.Ey.arg.out
def E0.Canon.nb.pre:List Atom→Bool
  | [.f _x]=>true
  | _=>false
def E0.Canon.nb.out:List Atom→DV
  | [.f x]=>.int .u64 (Fw x)
  | _=>.undef
def E0.Canon.nb.spec:Entry:=entry [.nb] E0.Canon.nb.pre E0.Canon.nb.out
def C5.Lq.pre:List Atom→Bool
  | [.i x]=>Af x
  | _=>false
def C5.Lq.out:List Atom→DV
  | [.i x]=>.int .i64 (E4 x)
  | _=>.undef
def C5.Lq.spec:Entry:=entry [.i .u64] C5.Lq.pre C5.Lq.out
theorem tt0:∀ a b c:Bool,((a==a)&&(b&&(c&&true)))=(b&&c):=by decide
theorem tt1:∀ a b:Bool,(bif a then b else false)=(a&&b):=by decide
theorem Sr:∀ a:Bool,(((!a)||(a==true))&&true)=true:=by decide
theorem Lt:∀ a:Bool,((!(a==true))||((((!(a==true))||(a==true))&&true)&&true))=true:=by decide
theorem N2:∀ a:Bool,((!(a==true))||true)=true:=by decide
theorem tt5:∀ a b:Bool,(bif a then true else b)=(a||b):=by decide
theorem W4:∀ a:Bool,((!(!a))||(a==false))=true:=by decide
theorem Qa:∀ a:Bool,((!(a==false))||((((!(a==false))||(a==false))&&true)&&true))=true:=by decide
theorem tt8:∀ a:Bool,((!(a==false))||((((!(a==false))||(a==false))&&(((!(a==false))||(a==false))&&true))&&true))=true:=by decide
theorem Se:∀ a:Bool,((!(a==false))||true)=true:=by decide
theorem Cx:∀ a:Bool,(a&&true)=a:=by decide
theorem Ayb:∀ a b c d e:Bool,(bif a then (bif b then true else (bif c then (bif d then true else e) else false)) else false)=(a&&(b||(c&&(d||e)))):=by decide
theorem Aya:∀ a b:Bool,((!(a==true))||(((!(a==true))||(a==true))&&((!(!b))||((a==true)&&(b==false)))))=true:=by decide
theorem Ax9:∀ a b c:Bool,((!((a==true)&&(b==false)))||(((!((a==true)&&(b==false)))||((a==true)&&(b==false)))&&(((!c)||(((a==true)&&(b==false))&&(c==true)))&&true)))=true:=by decide
theorem Ax8:∀ a b c d:Bool,((!(((a==true)&&(b==false))&&(c==true)))||(((!(((a==true)&&(b==false))&&(c==true)))||(((a==true)&&(b==false))&&(c==true)))&&((!(!d))||((((a==true)&&(b==false))&&(c==true))&&(d==false)))))=true:=by decide
theorem Avp:∀ a b c d:Bool,((!((((a==true)&&(b==false))&&(c==true))&&(d==false)))||((((!((((a==true)&&(b==false))&&(c==true))&&(d==false)))||((((a==true)&&(b==false))&&(c==true))&&(d==false)))&&true)&&true))=true:=by decide
theorem Ax7:∀ a b c d:Bool,((!((((a==true)&&(b==false))&&(c==true))&&(d==false)))||true)=true:=by decide
theorem Ax6:∀ a b c:Bool,((!(((a==true)&&(b==false))&&(c==true)))||((((!(((a==true)&&(b==false))&&(c==true)))||(((a==true)&&(b==false))&&(c==true)))&&true)&&true))=true:=by decide
theorem Ax5:∀ a b c:Bool,((!(((a==true)&&(b==false))&&(c==true)))||true)=true:=by decide
theorem Ax4:∀ a b:Bool,((!((a==true)&&(b==false)))||((((!((a==true)&&(b==false)))||((a==true)&&(b==false)))&&true)&&true))=true:=by decide
theorem Ax3:∀ a b:Bool,((!((a==true)&&(b==false)))||((((!((a==true)&&(b==false)))||((a==true)&&(b==false)))&&(((!((a==true)&&(b==false)))||((a==true)&&(b==false)))&&true))&&true))=true:=by decide
theorem Avo:∀ a b:Bool,((!((a==true)&&(b==false)))||true)=true:=by decide
theorem Xs:∀ a:Bool,((!(a==true))||((((!(a==true))||(a==true))&&(((!(a==true))||(a==true))&&true))&&true))=true:=by decide
theorem As5:∀ a b:Bool,(bif (!a) then true else b)=((!a)||b):=by decide
theorem Ab9:∀ a:Bool,((!(!(!a)))||((!a)==false))=true:=by decide
theorem R8:∀ a:Bool,((!((!a)==false))||((((!((!a)==false))||((!a)==false))&&true)&&true))=true:=by decide
theorem Ab8:∀ a:Bool,((!((!a)==false))||true)=true:=by decide
theorem Ax2:∀ a b:Bool,(bif a then (!b) else false)=(a&&(!b)):=by decide
theorem Amp:∀ a b:Bool,(bif (!a) then true else (!b))=((!a)||(!b)):=by decide
theorem Amo:∀ a b:Bool,((!((!a)==false))||((((!((!a)==false))||((!a)==false))&&true)&&b))=((!a)||b):=by decide
theorem Avn:∀ a b c d:Bool,(bif (bif a then b else false) then true else (bif c then d else false))=((a&&b)||(c&&d)):=by decide
theorem Avm:∀ a b:Bool,((!(!(bif a then b else false)))||((bif a then b else false)==false))=true:=by decide
theorem Avl:∀ a b c:Bool,((!((bif a then b else false)==false))||(((!((bif a then b else false)==false))||((bif a then b else false)==false))&&(((!c)||(((bif a then b else false)==false)&&(c==true)))&&true)))=true:=by decide
theorem Avk:∀ a b c:Bool,((!(((bif a then b else false)==false)&&(c==true)))||((((!(((bif a then b else false)==false)&&(c==true)))||(((bif a then b else false)==false)&&(c==true)))&&true)&&true))=true:=by decide
theorem Avj:∀ a b c:Bool,((!(((bif a then b else false)==false)&&(c==true)))||true)=true:=by decide
theorem Aqc:∀ a b:Bool,((!((bif a then b else false)==false))||((((!((bif a then b else false)==false))||((bif a then b else false)==false))&&true)&&true))=true:=by decide
theorem Avi:∀ a b:Bool,((!((bif a then b else false)==false))||true)=true:=by decide
theorem Ko:∀ a b:Bool,((a&&b)&&true)=(a&&b):=by decide
theorem Ax1:∀ a b c:Bool,(bif (bif (!a) then true else (!b)) then true else c)=(((!a)||(!b))||c):=by decide
theorem Ax0:∀ a b:Bool,((!(!(bif (!a) then true else (!b))))||((bif (!a) then true else (!b))==false))=true:=by decide
theorem Avh:∀ a b:Bool,((!((bif (!a) then true else (!b))==false))||((((!((bif (!a) then true else (!b))==false))||((bif (!a) then true else (!b))==false))&&(((!((bif (!a) then true else (!b))==false))||((bif (!a) then true else (!b))==false))&&true))&&true))=true:=by decide
theorem Aqb:∀ a b:Bool,((!((bif (!a) then true else (!b))==false))||((((!((bif (!a) then true else (!b))==false))||((bif (!a) then true else (!b))==false))&&true)&&true))=true:=by decide
theorem As4:∀ a b:Bool,((!((bif (!a) then true else (!b))==false))||true)=true:=by decide
theorem Avg:∀ a b c d:Bool,(((a&&b)&&(c&&d))&&true)=((a&&b)&&(c&&d)):=by decide
theorem Axz:∀ a b c d e f g h:Bool,(bif (bif (bif (bif (bif (bif (bif a then true else b) then true else c) then true else d) then true else e) then true else f) then true else g) then true else h)=(((((((a||b)||c)||d)||e)||f)||g)||h):=by decide
theorem Axy:∀ a b c d e f g:Bool,((!(!(bif (bif (bif (bif (bif (bif a then true else b) then true else c) then true else d) then true else e) then true else f) then true else g)))||((bif (bif (bif (bif (bif (bif a then true else b) then true else c) then true else d) then true else e) then true else f) then true else g)==false))=true:=by decide
theorem Avf:∀ a b c d e f g:Bool,((!((bif (bif (bif (bif (bif (bif a then true else b) then true else c) then true else d) then true else e) then true else f) then true else g)==false))||((((!((bif (bif (bif (bif (bif (bif a then true else b) then true else c) then true else d) then true else e) then true else f) then true else g)==false))||((bif (bif (bif (bif (bif (bif a then true else b) then true else c) then true else d) then true else e) then true else f) then true else g)==false))&&(((!((bif (bif (bif (bif (bif (bif a then true else b) then true else c) then true else d) then true else e) then true else f) then true else g)==false))||((bif (bif (bif (bif (bif (bif a then true else b) then true else c) then true else d) then true else e) then true else f) then true else g)==false))&&true))&&true))=true:=by decide
theorem As3:∀ a b c d e f g:Bool,((!((bif (bif (bif (bif (bif (bif a then true else b) then true else c) then true else d) then true else e) then true else f) then true else g)==false))||true)=true:=by decide
theorem Axx:∀ a b c d e f g:Bool,((!((bif (bif (bif (bif (bif (bif a then true else b) then true else c) then true else d) then true else e) then true else f) then true else g)==false))||((((!((bif (bif (bif (bif (bif (bif a then true else b) then true else c) then true else d) then true else e) then true else f) then true else g)==false))||((bif (bif (bif (bif (bif (bif a then true else b) then true else c) then true else d) then true else e) then true else f) then true else g)==false))&&true)&&true))=true:=by decide
theorem Axw:∀ a b c d e f:Bool,((!(!(bif (bif (bif (bif (bif a then true else b) then true else c) then true else d) then true else e) then true else f)))||((bif (bif (bif (bif (bif a then true else b) then true else c) then true else d) then true else e) then true else f)==false))=true:=by decide
theorem Ave:∀ a b c d e f:Bool,((!((bif (bif (bif (bif (bif a then true else b) then true else c) then true else d) then true else e) then true else f)==false))||((((!((bif (bif (bif (bif (bif a then true else b) then true else c) then true else d) then true else e) then true else f)==false))||((bif (bif (bif (bif (bif a then true else b) then true else c) then true else d) then true else e) then true else f)==false))&&(((!((bif (bif (bif (bif (bif a then true else b) then true else c) then true else d) then true else e) then true else f)==false))||((bif (bif (bif (bif (bif a then true else b) then true else c) then true else d) then true else e) then true else f)==false))&&true))&&true))=true:=by decide
theorem As2:∀ a b c d e f:Bool,((!((bif (bif (bif (bif (bif a then true else b) then true else c) then true else d) then true else e) then true else f)==false))||true)=true:=by decide
theorem Axv:∀ a b c d e f:Bool,((!((bif (bif (bif (bif (bif a then true else b) then true else c) then true else d) then true else e) then true else f)==false))||((((!((bif (bif (bif (bif (bif a then true else b) then true else c) then true else d) then true else e) then true else f)==false))||((bif (bif (bif (bif (bif a then true else b) then true else c) then true else d) then true else e) then true else f)==false))&&true)&&true))=true:=by decide
theorem Axu:∀ a b c d e:Bool,((!(!(bif (bif (bif (bif a then true else b) then true else c) then true else d) then true else e)))||((bif (bif (bif (bif a then true else b) then true else c) then true else d) then true else e)==false))=true:=by decide
theorem Axt:∀ a b c d e:Bool,((!((bif (bif (bif (bif a then true else b) then true else c) then true else d) then true else e)==false))||((((!((bif (bif (bif (bif a then true else b) then true else c) then true else d) then true else e)==false))||((bif (bif (bif (bif a then true else b) then true else c) then true else d) then true else e)==false))&&(((!((bif (bif (bif (bif a then true else b) then true else c) then true else d) then true else e)==false))||((bif (bif (bif (bif a then true else b) then true else c) then true else d) then true else e)==false))&&true))&&true))=true:=by decide
theorem Axs:∀ a b c d e:Bool,((!((bif (bif (bif (bif a then true else b) then true else c) then true else d) then true else e)==false))||((((!((bif (bif (bif (bif a then true else b) then true else c) then true else d) then true else e)==false))||((bif (bif (bif (bif a then true else b) then true else c) then true else d) then true else e)==false))&&true)&&true))=true:=by decide
theorem Avd:∀ a b c d e:Bool,((!((bif (bif (bif (bif a then true else b) then true else c) then true else d) then true else e)==false))||true)=true:=by decide
theorem Avc:∀ a b c d:Bool,((!(!(bif (bif (bif a then true else b) then true else c) then true else d)))||((bif (bif (bif a then true else b) then true else c) then true else d)==false))=true:=by decide
theorem Avb:∀ a b c d:Bool,((!((bif (bif (bif a then true else b) then true else c) then true else d)==false))||((((!((bif (bif (bif a then true else b) then true else c) then true else d)==false))||((bif (bif (bif a then true else b) then true else c) then true else d)==false))&&(((!((bif (bif (bif a then true else b) then true else c) then true else d)==false))||((bif (bif (bif a then true else b) then true else c) then true else d)==false))&&true))&&true))=true:=by decide
theorem Ava:∀ a b c d:Bool,((!((bif (bif (bif a then true else b) then true else c) then true else d)==false))||((((!((bif (bif (bif a then true else b) then true else c) then true else d)==false))||((bif (bif (bif a then true else b) then true else c) then true else d)==false))&&true)&&true))=true:=by decide
theorem Aqa:∀ a b c d:Bool,((!((bif (bif (bif a then true else b) then true else c) then true else d)==false))||true)=true:=by decide
theorem Ap9:∀ a b c:Bool,((!(!(bif (bif a then true else b) then true else c)))||((bif (bif a then true else b) then true else c)==false))=true:=by decide
theorem Ad6:∀ a b c:Bool,((!((bif (bif a then true else b) then true else c)==false))||((((!((bif (bif a then true else b) then true else c)==false))||((bif (bif a then true else b) then true else c)==false))&&true)&&true))=true:=by decide
theorem Aj1:∀ a b c:Bool,((!((bif (bif a then true else b) then true else c)==false))||true)=true:=by decide
theorem Ap8:∀ a b:Bool,((!(!(bif a then true else b)))||((bif a then true else b)==false))=true:=by decide
theorem Agt:∀ a b:Bool,((!((bif a then true else b)==false))||((((!((bif a then true else b)==false))||((bif a then true else b)==false))&&true)&&true))=true:=by decide
theorem Ad5:∀ a b:Bool,((!((bif a then true else b)==false))||true)=true:=by decide
theorem Axr:∀ a b c d:Bool,(((!(bif (bif (bif a then b else false) then c else false) then d else false))||((bif (bif (bif a then b else false) then c else false) then d else false)==true))&&true)=true:=by decide
theorem Au9:∀ a b c d:Bool,((!((bif (bif (bif a then b else false) then c else false) then d else false)==true))||((((!((bif (bif (bif a then b else false) then c else false) then d else false)==true))||((bif (bif (bif a then b else false) then c else false) then d else false)==true))&&(((!((bif (bif (bif a then b else false) then c else false) then d else false)==true))||((bif (bif (bif a then b else false) then c else false) then d else false)==true))&&true))&&true))=true:=by decide
theorem Ap7:∀ a b c d:Bool,((!((bif (bif (bif a then b else false) then c else false) then d else false)==true))||((((!((bif (bif (bif a then b else false) then c else false) then d else false)==true))||((bif (bif (bif a then b else false) then c else false) then d else false)==true))&&true)&&true))=true:=by decide
theorem As1:∀ a b c d:Bool,((!((bif (bif (bif a then b else false) then c else false) then d else false)==true))||true)=true:=by decide
theorem Axq:∀ a b c:Bool,(((!(bif (bif a then b else false) then c else false))||((bif (bif a then b else false) then c else false)==true))&&true)=true:=by decide
theorem Au8:∀ a b c:Bool,((!((bif (bif a then b else false) then c else false)==true))||((((!((bif (bif a then b else false) then c else false)==true))||((bif (bif a then b else false) then c else false)==true))&&true)&&true))=true:=by decide
theorem Axp:∀ a b c:Bool,((!((bif (bif a then b else false) then c else false)==true))||true)=true:=by decide
theorem Aj0:∀ a b:Bool,(((!(bif a then b else false))||((bif a then b else false)==true))&&true)=true:=by decide
theorem Ags:∀ a b:Bool,((!((bif a then b else false)==true))||((((!((bif a then b else false)==true))||((bif a then b else false)==true))&&true)&&true))=true:=by decide
theorem Agr:∀ a b:Bool,((!((bif a then b else false)==true))||true)=true:=by decide
theorem Axo:∀ a b c:Bool,((!((bif a then b else false)==true))||((((!((bif a then b else false)==true))||((bif a then b else false)==true))&&(((!((bif a then b else false)==true))||((bif a then b else false)==true))&&true))&&c))=((!(a&&b))||c):=by decide
theorem Axn:∀ a b c:Bool,((!(a==true))||((((!(a==true))||(a==true))&&(((!(a==true))||(a==true))&&true))&&(b&&c)))=((!a)||(b&&c)):=by decide
theorem Au7:∀ a:Bool,(((a&&true)&&true)&&true)=a:=by decide
theorem Axm:∀ a b:Bool,((!(a==true))||((((!(a==true))||(a==true))&&true)&&b))=((!a)||b):=by decide
theorem Ap6:∀ a b:Bool,((!(a==false))||((((!(a==false))||(a==false))&&true)&&b))=(a||b):=by decide
theorem Au6:∀ a b:Bool,(bif a then true else (!b))=(a||(!b)):=by decide
theorem As0:∀ a b c:Bool,((a&&b)&&((a&&c)&&true))=((a&&b)&&(a&&c)):=by decide
theorem Axl:∀ a:Bool,((a&&true)&&true)=a:=by decide
theorem Axk:∀ a b c d e:Bool,(bif (bif (bif (bif a then true else b) then true else c) then true else d) then true else e)=((((a||b)||c)||d)||e):=by decide
theorem Ap5:∀ a b:Bool,((!((bif a then true else b)==false))||((((!((bif a then true else b)==false))||((bif a then true else b)==false))&&(((!((bif a then true else b)==false))||((bif a then true else b)==false))&&true))&&true))=true:=by decide
theorem Axj:∀ a b c:Bool,((!((bif a then b else false)==true))||((((!((bif a then b else false)==true))||((bif a then b else false)==true))&&true)&&c))=((!(a&&b))||c):=by decide
theorem Asg:∀ a b c:Bool,((!((bif (bif a then true else b) then true else c)==false))||((((!((bif (bif a then true else b) then true else c)==false))||((bif (bif a then true else b) then true else c)==false))&&(((!((bif (bif a then true else b) then true else c)==false))||((bif (bif a then true else b) then true else c)==false))&&true))&&true))=true:=by decide
theorem Av6:∀ a:Bool,((((!a)||(a==true))&&true)&&true)=true:=by decide
theorem Aio:∀ a:Bool,(((!(a==true))||true)&&true)=true:=by decide
theorem Asf:∀ a b c d:Bool,(bif (bif (bif a then true else b) then true else c) then true else d)=(((a||b)||c)||d):=by decide
theorem Av5:∀ a b c:Bool,((((!(bif (bif a then b else false) then c else false))||((bif (bif a then b else false) then c else false)==true))&&true)&&true)=true:=by decide
theorem Av4:∀ a b c:Bool,(((!((bif (bif a then b else false) then c else false)==true))||true)&&true)=true:=by decide
theorem Av3:∀ a b:Bool,((((!(bif a then b else false))||((bif a then b else false)==true))&&true)&&true)=true:=by decide
theorem Ase:∀ a b:Bool,(((!((bif a then b else false)==true))||((((!((bif a then b else false)==true))||((bif a then b else false)==true))&&true)&&true))&&true)=true:=by decide
theorem Av2:∀ a b:Bool,(((!((bif a then b else false)==true))||true)&&true)=true:=by decide
theorem Av1:∀ a b:Bool,(((!(a==true))||((((!(a==true))||(a==true))&&(((!(a==true))||(a==true))&&(((!(a==true))||(a==true))&&true)))&&b))&&true)=((!a)||b):=by decide
theorem Av0:∀ a b c:Bool,(((!(a==true))||((((!(a==true))||(a==true))&&(((!(a==true))||(a==true))&&true))&&(((b&&c)&&true)&&true)))&&true)=((!a)||(b&&c)):=by decide
theorem Avz:∀ a:Bool,(((!(a==true))||((((!(a==true))||(a==true))&&true)&&true))&&true)=true:=by decide
theorem Avy:∀ a b c:Bool,(bif (bif a then true else b) then true else (!c))=((a||b)||(!c)):=by decide
theorem Avx:∀ a b:Bool,(((!(!(bif a then true else b)))||((bif a then true else b)==false))&&true)=true:=by decide
theorem Avw:∀ a b:Bool,(((!((bif a then true else b)==false))||((((!((bif a then true else b)==false))||((bif a then true else b)==false))&&true)&&true))&&true)=true:=by decide
theorem Avv:∀ a b c:Bool,(((!((bif a then true else b)==false))||((((!((bif a then true else b)==false))||((bif a then true else b)==false))&&(((!((bif a then true else b)==false))||((bif a then true else b)==false))&&true))&&c))&&true)=((a||b)||c):=by decide
theorem Amq:∀ a b:Bool,(((!((bif a then true else b)==false))||true)&&true)=true:=by decide
theorem Avu:∀ a b c d e:Bool,(((!((bif a then true else b)==false))||((((!((bif a then true else b)==false))||((bif a then true else b)==false))&&true)&&(c&&(d&&(e&&true)))))&&true)=((a||b)||(c&&(d&&e))):=by decide
theorem Avt:∀ a b c d:Bool,(((!((bif a then true else b)==false))||((((!((bif a then true else b)==false))||((bif a then true else b)==false))&&(((!((bif a then true else b)==false))||((bif a then true else b)==false))&&true))&&(c&&d)))&&true)=((a||b)||(c&&d)):=by decide
theorem Avs:∀ a:Bool,(((!(!a))||(a==false))&&true)=true:=by decide
theorem Avr:∀ a:Bool,(((!(a==false))||((((!(a==false))||(a==false))&&(((!(a==false))||(a==false))&&true))&&true))&&true)=true:=by decide
theorem Avq:∀ a:Bool,(((!(a==false))||((((!(a==false))||(a==false))&&true)&&true))&&true)=true:=by decide
theorem Asd:∀ a:Bool,(((!(a==false))||true)&&true)=true:=by decide
open Go Go.Den Go.Rnd Go.Proofs
set_option maxRecDepth 100000
namespace EqSoft
def soft.Split.A6:List (Nat × Entry):=[]
def soft.Split.E:Env:=A9 (A5 soft.Split.A6) (fun _=>false) (fun _=>none) (fun _=>none)
theorem soft.Split.ev (N:Nat) (x:Int):Bq soft.Split.E N Tryz.f206 (An Tryz.f206) [.int .u64 x]=some (.agg [.bool ((Dj .u64 x 63)==(1:Int)),.int .i64 (Ab (Ev .u64 (Dj .u64 x 52) 2047)),.int .u64 (Ev .u64 x 4503599627370495)]):=by kernel_rfl
abbrev _root_.Go.Proofs.S1.soft.Split.Kn:=A3 Tryz.prog 206 soft.Split.spec
theorem soft.Split.Ac (hk:Ax Tryz.prog soft.Split.A6) (h:∀ (x:Int),soft.Split.pre [.i x]=true→A8 soft.Split.E Tryz.f206 [.int .u64 x] (soft.Split.out [.i x])):soft.Split.Kn :=
  Ak (Az hk _ _ _) Tryz.func206 (by kernel_rfl) (by kernel_rfl) h
def soft.Kind.A6:List (Nat × Entry):=[(206,soft.Split.spec)]
def soft.Kind.E:Env:=A9 (A5 soft.Kind.A6) (fun _=>false) (fun _=>none) (fun _=>none)
theorem soft.Kind.ev (N:Nat) (x:Int):Bq soft.Kind.E N Tryz.f155 (An Tryz.f155) [.int .u64 x]=bif (Af x) then bif (((Lv x)==(2047:Int))&&((C6 x)==(0:Int))) then some (.int .i64 3) else bif ((Lv x)==(2047:Int)) then some (.int .i64 4) else bif (A4 0 (Lv x)) then some (.int .i64 2) else bif (A4 0 (C6 x)) then some (.int .i64 1) else some (.int .i64 0) else none :=
  Eq.trans (by kernel_rfl)
  (Eh (C0 (tt0 (Dt x) ((Lv x)==(2047:Int)) ((C6 x)==(0:Int))) rfl rfl) rfl)
abbrev _root_.Go.Proofs.S1.soft.Kind.Kn:=A3 Tryz.prog 155 soft.Kind.spec
theorem soft.Kind.Ac (hk:Ax Tryz.prog soft.Kind.A6) (h:∀ (x:Int),soft.Kind.pre [.i x]=true→A8 soft.Kind.E Tryz.f155 [.int .u64 x] (soft.Kind.out [.i x])):soft.Kind.Kn :=
  Ak (Az hk _ _ _) Tryz.func155 (by kernel_rfl) (by kernel_rfl) h
def soft.Sign.A6:List (Nat × Entry):=[]
def soft.Sign.E:Env:=A9 (A5 soft.Sign.A6) (fun _=>false) (fun _=>none) (fun _=>none)
theorem soft.Sign.ev (N:Nat) (x:Int):Bq soft.Sign.E N Tryz.f213 (An Tryz.f213) [.int .u64 x]=some (.bool ((Dj .u64 x 63)==(1:Int))):=by kernel_rfl
abbrev _root_.Go.Proofs.S1.soft.Sign.Kn:=A3 Tryz.prog 213 soft.Sign.spec
theorem soft.Sign.Ac (hk:Ax Tryz.prog soft.Sign.A6) (h:∀ (x:Int),soft.Sign.pre [.i x]=true→A8 soft.Sign.E Tryz.f213 [.int .u64 x] (soft.Sign.out [.i x])):soft.Sign.Kn :=
  Ak (Az hk _ _ _) Tryz.func213 (by kernel_rfl) (by kernel_rfl) h
def soft.Finite.A6:List (Nat × Entry):=[(155,soft.Kind.spec)]
def soft.Finite.E:Env:=A9 (A5 soft.Finite.A6) (fun _=>false) (fun _=>none) (fun _=>none)
theorem soft.Finite.ev (N:Nat) (x:Int):Bq soft.Finite.E N Tryz.f148 (An Tryz.f148) [.int .u64 x]=bif (Af x) then bif ((Bd x)==(3:Int)) then some (.bool false) else bif ((Bd x)==(4:Int)) then some (.bool false) else some (.bool true) else none:=by kernel_rfl
abbrev _root_.Go.Proofs.S1.soft.Finite.Kn:=A3 Tryz.prog 148 soft.Finite.spec
theorem soft.Finite.Ac (hk:Ax Tryz.prog soft.Finite.A6) (h:∀ (x:Int),soft.Finite.pre [.i x]=true→A8 soft.Finite.E Tryz.f148 [.int .u64 x] (soft.Finite.out [.i x])):soft.Finite.Kn :=
  Ak (Az hk _ _ _) Tryz.func148 (by kernel_rfl) (by kernel_rfl) h
def soft.Dp.A6:List (Nat × Entry):=[]
def soft.Dp.E:Env:=A9 (A5 soft.Dp.A6) (fun _=>false) (fun _=>none) (fun _=>none)
theorem soft.Dp.ev (N:Nat) (x:Int):Bq soft.Dp.E N Tryz.f233 (An Tryz.f233) [.int .u64 x]=some (.int .u64 (Ar2 .u64 x 9223372036854775808)):=by kernel_rfl
abbrev _root_.Go.Proofs.S1.soft.Dp.Kn:=A3 Tryz.prog 233 soft.Dp.spec
theorem soft.Dp.Ac (hk:Ax Tryz.prog soft.Dp.A6) (h:∀ (x:Int),soft.Dp.pre [.i x]=true→A8 soft.Dp.E Tryz.f233 [.int .u64 x] (soft.Dp.out [.i x])):soft.Dp.Kn :=
  Ak (Az hk _ _ _) Tryz.func233 (by kernel_rfl) (by kernel_rfl) h
def soft.F9.A6:List (Nat × Entry):=[(206,soft.Split.spec)]
def soft.F9.E:Env:=A9 (A5 soft.F9.A6) (fun _=>false) (fun _=>none) (fun _=>none)
theorem soft.F9.ev (N:Nat) (x:Int):Bq soft.F9.E N Tryz.f211 (An Tryz.f211) [.int .u64 x]=bif (Af x) then bif ((Lv x)==(0:Int)) then some (.tup [.int .u64 (C6 x),.int .i64 (-1074:Int)]) else some (.tup [.int .u64 (Ia .u64 (C6 x) 4503599627370496),.int .i64 (Ab ((Lv x)-1075))]) else none:=by kernel_rfl
abbrev _root_.Go.Proofs.S1.soft.F9.Kn:=A3 Tryz.prog 211 soft.F9.spec
theorem soft.F9.Ac (hk:Ax Tryz.prog soft.F9.A6) (h:∀ (x:Int),soft.F9.pre [.i x]=true→A8 soft.F9.E Tryz.f211 [.int .u64 x] (soft.F9.out [.i x])):soft.F9.Kn :=
  Ak (Az hk _ _ _) Tryz.func211 (by kernel_rfl) (by kernel_rfl) h
def soft.Pack.A6:List (Nat × Entry):=[(233,soft.Dp.spec)]
def soft.Pack.E (rk:Nat):Env:=A9 (A5 ((239,Akm [.b,.i .u64,.i .i64] soft.Pack.pre soft.Pack.out soft.Pack.mu rk)::soft.Pack.A6)) (fun _=>false) (fun _=>none) (fun _=>none)
theorem soft.Pack.ev (N rk:Nat) (n:Bool) (m e:Int):Bq (soft.Pack.E rk) N Tryz.f239 (An Tryz.f239) [.bool n,.int .u64 m,.int .i64 e]=bif (m==(0:Int)) then bif n then bif (Af 0) then some (.int .u64 (Db 0)) else none else some (.int .u64 0) else bif (D6 9007199254740992 m) then bif ((K6 (Dj .u64 m 1) (Ab (e+1)))&&(Cz ((Pj (Dj .u64 m 1) (Ab (e+1)))<rk))) then some (.int .u64 (Ub n (Dj .u64 m 1) (Ab (e+1)))) else none else bif ((A4 m 4503599627370496)&&(A4 (-1074:Int) e)) then bif ((K6 (B4 .u64 m 1) (Ab (e-1)))&&(Cz ((Pj (B4 .u64 m 1) (Ab (e-1)))<rk))) then some (.int .u64 (Ub n (B4 .u64 m 1) (Ab (e-1)))) else none else bif (A4 m 4503599627370496) then bif n then bif (Af m) then some (.int .u64 (Db m)) else none else some (.int .u64 m) else bif (D6 2047 (Ab (e+1075))) then bif n then bif (Af 9218868437227405312) then some (.int .u64 (Db 9218868437227405312)) else none else some (.int .u64 9218868437227405312) else bif n then bif (Af (Ia .u64 (B4 .u64 (Bk (Ab (e+1075))) 52) (Ev .u64 m 4503599627370495))) then some (.int .u64 (Db (Ia .u64 (B4 .u64 (Bk (Ab (e+1075))) 52) (Ev .u64 m 4503599627370495)))) else none else some (.int .u64 (Ia .u64 (B4 .u64 (Bk (Ab (e+1075))) 52) (Ev .u64 m 4503599627370495))) :=
  Eq.trans (by kernel_rfl)
  (Eh rfl (Eh rfl (Av (N2 (A4 m 4503599627370496)) (Av (Lt (A4 m 4503599627370496)) (Av (Sr (A4 m 4503599627370496)) (C0 (tt1 (A4 m 4503599627370496) (A4 (-1074:Int) e)) rfl rfl))))))
theorem soft.Pack.Ac (hk:Ax Tryz.prog soft.Pack.A6) (h:∀ (rk:Nat) (n:Bool) (m e:Int),soft.Pack.pre [.b n,.i m,.i e]=true→soft.Pack.mu [.b n,.i m,.i e]<rk+1→∃ N dv drops,Bq (soft.Pack.E rk) N Tryz.f239 (An Tryz.f239) [.bool n,.int .u64 m,.int .i64 e]=some dv∧Wk drops dv (soft.Pack.out [.b n,.i m,.i e])):A3 Tryz.prog 239 soft.Pack.spec:=by
  have call:=Ti (f:=239) Tryz.func239 (by kernel_rfl) (show Tryz.f239.body=some (An Tryz.f239) by kernel_rfl)
  refine ⟨Ahl (E:=soft.Pack.E) Tryz.func239 (show Tryz.f239.body=some (An Tryz.f239) by kernel_rfl) soft.Pack.mu (fun rk hm=>Az (.cons ⟨hm,call⟩ hk) _ _ _) fun rk ats dvs he hp hr=>?_,call⟩
  obtain ⟨n,_,_,rfl,rfl,he0⟩:=he.Awo
  obtain ⟨m,_,_,rfl,rfl,he1⟩:=he0.Aom
  obtain ⟨e,_,_,rfl,rfl,he2⟩:=he1.Aom
  obtain ⟨rfl,rfl⟩:=he2.Ac1
  exact h rk n m e hp hr
abbrev _root_.Go.Proofs.S1.soft.Pack.Kn:Prop:=A3 Tryz.prog 239 soft.Pack.spec
def soft.Di.hint:Nat→Option Ba
  | 0=>some { keep:=[0,1,2,3,10],objs:=[],boxes:=[] }
  | _=>none
def soft.Di.A6:List (Nat × Entry):=[(155,soft.Kind.spec),(239,soft.Pack.spec)]
def soft.Di.live:Nat→Option (List Nat)
  | 7=>some [0,1,2,3,10]
  | 12=>some [0,2,3,10,11,12,13,14]
  | 14=>some [0,2,10,11,14]
  | 16=>some [0,2,10,11,14]
  | 18=>some [14,15,16]
  | _=>none
def soft.Di.E:Env:=A9 (A5 soft.Di.A6) (fun _=>false) soft.Di.hint soft.Di.live
def soft.Di.L0 (N M:Nat) (n:Bool) (m e:Int) (r:Bool) (p10:Int):Option DV:=B0 soft.Di.E N Tryz.f212 (An Tryz.f212) [1,1,1,0,0] [] M ⟨Gj 111 [(0,.bool n),(1,.int .u64 m),(2,.int .i64 e),(3,.bool r),(10,.int .i64 p10)],[]⟩
def soft.Di.C7 (N:Nat) (n:Bool) (m e:Int) (r:Bool) (p10_1:Int):Option DV:=cutAt soft.Di.E N Tryz.f212 (An Tryz.f212) [1,1,1,1] [] ⟨Gj 111 [(0,.bool n),(1,.int .u64 m),(2,.int .i64 e),(3,.bool r),(10,.int .i64 p10_1)],[]⟩
def soft.Di.C12 (N:Nat) (n:Bool) (e:Int) (r:Bool) (p10_2 p11_1:Int) (p12 p13:Int) (p14:Bool):Option DV:=cutAt soft.Di.E N Tryz.f212 (An Tryz.f212) [1,1,1,1,1,1,1,1,0] [] ⟨Gj 111 [(0,.bool n),(2,.int .i64 e),(3,.bool r),(10,.int .i64 p10_2),(11,.int .u64 p11_1),(12,.int .u64 p12),(13,.int .u64 p13),(14,.bool p14)],[]⟩
def soft.Di.C14 (N:Nat) (n:Bool) (e p10_3 p11_2:Int) (p14_1:Bool):Option DV:=cutAt soft.Di.E N Tryz.f212 (An Tryz.f212) [1,1,1,1,1,1,1,1,1,0] [] ⟨Gj 111 [(0,.bool n),(2,.int .i64 e),(10,.int .i64 p10_3),(11,.int .u64 p11_2),(14,.bool p14_1)],[]⟩
def soft.Di.C16 (N:Nat) (n:Bool) (e p11 p10_4:Int) (p14_2:Bool):Option DV:=cutAt soft.Di.E N Tryz.f212 (An Tryz.f212) [1,1,1,1,1,1,1,1,1,1] [] ⟨Gj 111 [(0,.bool n),(2,.int .i64 e),(10,.int .i64 p10_4),(11,.int .u64 p11),(14,.bool p14_2)],[]⟩
def soft.Di.C18 (N:Nat) (p14_3:Bool) (p15:Int):Option DV:=cutAt soft.Di.E N Tryz.f212 (An Tryz.f212) [1,1,1,1,1,1,1,1,1,1,1,1,0] [] ⟨Gj 111 [(14,.bool p14_3),(15,.int .u64 p15),(16,.int .u8 0)],[]⟩
theorem soft.Di.Ar (N M:Nat) (n:Bool) (m e:Int) (r:Bool) (p10:Int):soft.Di.L0 N (M+1) n m e r p10=bif (decide (0≤p10)) then bif ((D6 9007199254740992 (Dj .u64 m p10))||(A4 (Ab (e+p10)) (-1074:Int))) then bif ((Ab (p10+1))==(63:Int)) then soft.Di.C7 N n m e r (Ab (p10+1)) else soft.Di.L0 N M n m e r (Ab (p10+1)) else soft.Di.C7 N n m e r p10 else none :=
  Eq.trans (by kernel_rfl)
  (Eh (Av (Se (D6 9007199254740992 (Dj .u64 m p10))) (Av (Se (D6 9007199254740992 (Dj .u64 m p10))) (Av (tt8 (D6 9007199254740992 (Dj .u64 m p10))) (Av (Qa (D6 9007199254740992 (Dj .u64 m p10))) (Av (W4 (D6 9007199254740992 (Dj .u64 m p10))) (C0 (tt5 (D6 9007199254740992 (Dj .u64 m p10)) (A4 (Ab (e+p10)) (-1074:Int))) rfl rfl)))))) rfl)
theorem soft.Di.Awr (N:Nat) (n:Bool) (m e:Int) (r:Bool) (p10_1:Int):soft.Di.C7 N n m e r p10_1=bif (decide (0≤p10_1)) then bif (decide (0≤p10_1)) then bif (A4 0 p10_1) then bif (decide (0≤(Ab (p10_1-1)))) then soft.Di.C12 N n e r p10_1 (Dj .u64 m p10_1) (Ev .u64 m (Bk ((B4 .u64 1 p10_1)-1))) (B4 .u64 1 (Ab (p10_1-1))) (bif ((Ev .u64 m (Bk ((B4 .u64 1 p10_1)-1)))==(0:Int)) then (!r) else false) else none else soft.Di.C12 N n e r p10_1 (Dj .u64 m p10_1) (Ev .u64 m (Bk ((B4 .u64 1 p10_1)-1))) 0 (bif ((Ev .u64 m (Bk ((B4 .u64 1 p10_1)-1)))==(0:Int)) then (!r) else false) else none else none :=
  Eq.trans ((Q2 _ _ _ _ _ _ _).trans (by kernel_rfl))
  (C0 (Cx (decide (0≤p10_1))) (C0 (Cx (decide (0≤p10_1))) (Eh (Eh (Av (N2 ((Ev .u64 m (Bk ((B4 .u64 1 p10_1)-1)))==(0:Int))) (Av (Lt ((Ev .u64 m (Bk ((B4 .u64 1 p10_1)-1)))==(0:Int))) (Av (Sr ((Ev .u64 m (Bk ((B4 .u64 1 p10_1)-1)))==(0:Int))) rfl))) rfl) (Av (N2 ((Ev .u64 m (Bk ((B4 .u64 1 p10_1)-1)))==(0:Int))) (Av (Lt ((Ev .u64 m (Bk ((B4 .u64 1 p10_1)-1)))==(0:Int))) (Av (Sr ((Ev .u64 m (Bk ((B4 .u64 1 p10_1)-1)))==(0:Int))) rfl)))) rfl) rfl)
theorem soft.Di.Aug (N:Nat) (n:Bool) (e:Int) (r:Bool) (p10_2 p11_1:Int) (p12 p13:Int) (p14:Bool):soft.Di.C12 N n e r p10_2 p11_1 p12 p13 p14=bif ((A4 0 p10_2)&&((A4 p13 p12)||((p12==p13)&&(r||((Ev .u64 p11_1 1)==(1:Int)))))) then soft.Di.C14 N n e p10_2 (Bk (p11_1+1)) p14 else soft.Di.C14 N n e p10_2 p11_1 p14 :=
  Eq.trans ((Q2 _ _ _ _ _ _ _).trans (by kernel_rfl))
  (Av (N2 (A4 0 p10_2)) (Av (N2 (A4 0 p10_2)) (Av (Xs (A4 0 p10_2)) (Av (Lt (A4 0 p10_2)) (Av (Avo (A4 0 p10_2) (A4 p13 p12)) (Av (Avo (A4 0 p10_2) (A4 p13 p12)) (Av (Ax3 (A4 0 p10_2) (A4 p13 p12)) (Av (Ax4 (A4 0 p10_2) (A4 p13 p12)) (Av (Ax5 (A4 0 p10_2) (A4 p13 p12) (p12==p13)) (Av (Ax6 (A4 0 p10_2) (A4 p13 p12) (p12==p13)) (Av (Ax7 (A4 0 p10_2) (A4 p13 p12) (p12==p13) r) (Av (Avp (A4 0 p10_2) (A4 p13 p12) (p12==p13) r) (Av (Avp (A4 0 p10_2) (A4 p13 p12) (p12==p13) r) (Av (Ax8 (A4 0 p10_2) (A4 p13 p12) (p12==p13) r) (Av (Ax9 (A4 0 p10_2) (A4 p13 p12) (p12==p13)) (Av (Aya (A4 0 p10_2) (A4 p13 p12)) (Av (Sr (A4 0 p10_2)) (C0 (Ayb (A4 0 p10_2) (A4 p13 p12) (p12==p13) r ((Ev .u64 p11_1 1)==(1:Int))) rfl rfl))))))))))))))))))
theorem soft.Di.Auf (N:Nat) (n:Bool) (e p10_3 p11_2:Int) (p14_1:Bool):soft.Di.C14 N n e p10_3 p11_2 p14_1=bif (A4 (Ab (e+p10_3)) (-1074:Int)) then soft.Di.C16 N n e 0 p10_3 p14_1 else soft.Di.C16 N n e p11_2 p10_3 p14_1:=(Q2 _ _ _ _ _ _ _).trans (by kernel_rfl)
theorem soft.Di.Aue (N:Nat) (n:Bool) (e p11 p10_4:Int) (p14_2:Bool):soft.Di.C16 N n e p11 p10_4 p14_2=bif (K6 p11 (max (Ab (e+p10_4)) (-1074:Int))) then soft.Di.C18 N p14_2 (Ub n p11 (max (Ab (e+p10_4)) (-1074:Int))) else none:=(Q2 _ _ _ _ _ _ _).trans (by kernel_rfl)
theorem soft.Di.Auc (N:Nat) (p14_3:Bool) (p15:Int):soft.Di.C18 N p14_3 p15=bif ((!p14_3)||((Gr .u64 p15 9223372036854775808)==(9218868437227405312:Int))) then bif (Af p15) then bif ((Bd p15)==(3:Int)) then some (.tup [.int .u64 p15,.int .u8 5]) else bif ((Bd p15)==(0:Int)) then bif ((Bd p15)==(0:Int)) then some (.tup [.int .u64 p15,.int .u8 3]) else some (.tup [.int .u64 p15,.int .u8 1]) else bif ((Bd p15)==(1:Int)) then some (.tup [.int .u64 p15,.int .u8 3]) else some (.tup [.int .u64 p15,.int .u8 1]) else none else some (.tup [.int .u64 p15,.int .u8 0]) :=
  Eq.trans ((Q2 _ _ _ _ _ _ _).trans (by kernel_rfl))
  (Av (Ab8 p14_3) (Av (R8 p14_3) (Av (R8 p14_3) (Av (Ab9 p14_3) (C0 (As5 p14_3 ((Gr .u64 p15 9223372036854775808)==(9218868437227405312:Int))) rfl rfl)))))
theorem soft.Di.ev (N:Nat) (n:Bool) (m e:Int) (r:Bool):Bq soft.Di.E N Tryz.f212 (An Tryz.f212) [.bool n,.int .u64 m,.int .i64 e,.bool r]=bif ((m==(0:Int))&&(!r)) then bif (K6 0 (-1074:Int)) then some (.tup [.int .u64 (Ub n 0 (-1074:Int)),.int .u8 0]) else none else soft.Di.L0 N N n m e r 0 :=
  Eq.trans (by kernel_rfl)
  (Av (N2 (m==(0:Int))) (Av (Lt (m==(0:Int))) (Av (Sr (m==(0:Int))) (C0 (Ax2 (m==(0:Int)) r) rfl rfl))))
abbrev _root_.Go.Proofs.S1.soft.Di.Kn:=A3 Tryz.prog 212 soft.Di.spec
theorem soft.Di.Ac (hk:Ax Tryz.prog soft.Di.A6) (h:∀ (n:Bool) (m e:Int) (r:Bool),soft.Di.pre [.b n,.i m,.i e,.b r]=true→A8 soft.Di.E Tryz.f212 [.bool n,.int .u64 m,.int .i64 e,.bool r] (soft.Di.out [.b n,.i m,.i e,.b r])):soft.Di.Kn :=
  Ak (Az hk _ _ _) Tryz.func212 (by kernel_rfl) (by kernel_rfl) h
end EqSoft
theorem Ad {a b:Bool}:(a&&b)=true↔a=true∧b=true:=by simp
theorem Ai4 {n:Nat} (hn:n<2^64):((Dj .u64 (n:Int) (63:Int))==(1:Int))=Dt n:=by
  rw [show (63:Int)=((63:Nat):Int) from rfl,Hw .u64 n 63 (by decide)]
  unfold Dt Bt
  rw [Ayu,Ay8]
  simp only [beq_iff_eq,Ayz]
  omega
theorem Aqp {n:Nat} (hn:n<2^64):Ab (Ev .u64 (Dj .u64 (n:Int) (52:Int)) (2047:Int))=Lv n:=by
  rw [show (52:Int)=((52:Nat):Int) from rfl,Hw .u64 n 52 (by decide),show (2047:Int)=((2^11-1:Nat):Int) from rfl,I6 11 (by omega) (by decide)]
  unfold Lv Dz
  rw [Ayu,Al (by omega) (by omega)]
theorem Aoq {n:Nat} (hn:n<2^64):Ev .u64 (n:Int) (4503599627370495:Int)=C6 n:=by
  rw [show (4503599627370495:Int)=((2^52-1:Nat):Int) from rfl,I6 52 hn (by decide)]
  unfold C6 Da
  rw [Ayu]
theorem soft.Split.known:soft.Split.Kn:=EqSoft.soft.Split.Ac .nil fun x hp=>by
  obtain ⟨n,rfl,hn⟩:=Bm (x:=x) hp
  refine ⟨0,soft.Split.out [.i n],[],?_,Wk.G8 (.cons .bool (.cons .int (.cons .int .nil)))⟩
  rw [EqSoft.soft.Split.ev,Ai4 hn,Aqp hn,Aoq hn]
  rfl
theorem soft.Kind.known:soft.Kind.Kn:=EqSoft.soft.Kind.Ac (.cons soft.Split.known .nil) fun x hp=>by
  obtain ⟨n,rfl,hn⟩:=Bm (x:=x) hp
  refine ⟨0,soft.Kind.out [.i n],[],?_,.int⟩
  rw [EqSoft.soft.Kind.ev,Cb hn]
  show _=some (DV.int .i64 (Bd n))
  unfold Bd Am Lv C6
  simp only [Ayu,Ays,As]
  have:=Ji n
  by_cases h1:Dz n=2047
  · by_cases h2:Da n=0
    · simp [h1,h2]
    · have:((Da n:Int)==0)=false:=by simp; exact h2
      simp [h1,this,h2]
  · have h1':((Dz n:Int)==2047)=false:=by simp; omega
    rw [h1']
    by_cases h3:0<Dz n
    · simp [h1,h3]
    · by_cases h4:0<Da n
      · simp [h1,h3,h4]
      · simp [h1,h3,h4]
theorem soft.Sign.known:soft.Sign.Kn:=EqSoft.soft.Sign.Ac .nil fun x hp=>by
  obtain ⟨n,rfl,hn⟩:=Bm (x:=x) hp
  refine ⟨0,soft.Sign.out [.i n],[],?_,.bool⟩
  rw [EqSoft.soft.Sign.ev,Ai4 hn]
  rfl
theorem Y7 (n:Nat):Kb n=!(decide (Am n=3)||decide (Am n=4)):=by
  have:=Ji n
  unfold Kb Am
  by_cases h1:Dz n=2047
  · by_cases h2:Da n=0<;>simp [h1,h2]
  · have:Dz n<2047:=by omega
    by_cases h3:0<Dz n
    · simp [h1,h3,this]
    · by_cases h4:0<Da n<;>simp [h1,h3,h4,this]
theorem soft.Finite.known:soft.Finite.Kn:=EqSoft.soft.Finite.Ac (.cons soft.Kind.known .nil) fun x hp=>by
  obtain ⟨n,rfl,hn⟩:=Bm (x:=x) hp
  refine ⟨0,soft.Finite.out [.i n],[],?_,.bool⟩
  rw [EqSoft.soft.Finite.ev,Cb hn]
  show _=some (DV.bool (Cv n))
  unfold Cv Bd
  rw [Ayu,Y7]
  by_cases h3:Am n=3
  · simp [h3]
  · by_cases h4:Am n=4
    · simp [h4]
    · have e3:((Am n:Int)==3)=false:=by simp; omega
      have e4:((Am n:Int)==4)=false:=by simp; omega
      simp [h3,h4,e3,e4]
theorem Ak7 {n:Nat} (hn:n<2^64):Ar2 .u64 (n:Int) (9223372036854775808:Int)=Db n:=by
  rw [show (9223372036854775808:Int)=((2^63:Nat):Int) from rfl,Apj hn (by decide),Apy hn]
  unfold Db Hi
  rw [Ayu]
theorem soft.Dp.known:soft.Dp.Kn:=EqSoft.soft.Dp.Ac .nil fun x hp=>by
  obtain ⟨n,rfl,hn⟩:=Bm (x:=x) hp
  refine ⟨0,soft.Dp.out [.i n],[],?_,.int⟩
  rw [EqSoft.soft.Dp.ev,Ak7 hn]
  rfl
theorem soft.F9.known:soft.F9.Kn:=EqSoft.soft.F9.Ac (.cons soft.Split.known .nil) fun x hp=>by
  obtain ⟨n,rfl,hn⟩:=Bm (x:=x) hp
  refine ⟨0,soft.F9.out [.i n],[],?_,Wk.Gp (.cons .int (.cons .int .nil))⟩
  rw [EqSoft.soft.F9.ev,Cb hn]
  show _=some (DV.tup [.int .u64 (Bv n),.int .i64 (Bh n)])
  have hf:=J9 n
  have hp:=Ji n
  unfold Bv Bh Lv C6 Aw A2
  rw [Ayu]
  by_cases h:Dz n=0
  · simp [h]
  · have e:((Dz n:Int)==0)=false:=by simp; omega
    have e2:Ia .u64 ((Da n:Nat):Int) (4503599627370496:Int)=((Da n+2^52:Nat):Int):=by
      rw [show (4503599627370496:Int)=((1*2^52:Nat):Int) from rfl,Al1 (by omega) (by omega)]
      congr 1; omega
    rw [e,e2,Al (by omega) (by omega)]
    simp [h]
namespace EqRefD
def A1.Neg.A6:List (Nat × Entry):=[]
def A1.Neg.E:Env:=A9 (A5 A1.Neg.A6) (fun _=>false) (fun _=>none) (fun _=>none)
theorem A1.Neg.ev (N:Nat) (x:Int):Bq A1.Neg.E N Tryz.f142 (An Tryz.f142) [.int .u64 x]=some (.bool ((Bk (Int.tdiv x 9223372036854775808))==(1:Int))):=by kernel_rfl
abbrev _root_.Go.Proofs.S1.A1.Neg.Kn:=A3 Tryz.prog 142 A1.Neg.spec
theorem A1.Neg.Ac (hk:Ax Tryz.prog A1.Neg.A6) (h:∀ (x:Int),A1.Neg.pre [.i x]=true→A8 A1.Neg.E Tryz.f142 [.int .u64 x] (A1.Neg.out [.i x])):A1.Neg.Kn :=
  Ak (Az hk _ _ _) Tryz.func142 (by kernel_rfl) (by kernel_rfl) h
def A1.Power.A6:List (Nat × Entry):=[]
def A1.Power.E:Env:=A9 (A5 A1.Power.A6) (fun _=>false) (fun _=>none) (fun _=>none)
theorem A1.Power.ev (N:Nat) (x:Int):Bq A1.Power.E N Tryz.f140 (An Tryz.f140) [.int .u64 x]=some (.int .i64 (Ab (Bk (Int.tdiv (Int.tmod x 9223372036854775808) 4503599627370496)))):=by kernel_rfl
abbrev _root_.Go.Proofs.S1.A1.Power.Kn:=A3 Tryz.prog 140 A1.Power.spec
theorem A1.Power.Ac (hk:Ax Tryz.prog A1.Power.A6) (h:∀ (x:Int),A1.Power.pre [.i x]=true→A8 A1.Power.E Tryz.f140 [.int .u64 x] (A1.Power.out [.i x])):A1.Power.Kn :=
  Ak (Az hk _ _ _) Tryz.func140 (by kernel_rfl) (by kernel_rfl) h
def A1.Ls.A6:List (Nat × Entry):=[]
def A1.Ls.E:Env:=A9 (A5 A1.Ls.A6) (fun _=>false) (fun _=>none) (fun _=>none)
theorem A1.Ls.ev (N:Nat) (x:Int):Bq A1.Ls.E N Tryz.f141 (An Tryz.f141) [.int .u64 x]=some (.int .u64 (Int.tmod x 4503599627370496)):=by kernel_rfl
abbrev _root_.Go.Proofs.S1.A1.Ls.Kn:=A3 Tryz.prog 141 A1.Ls.spec
theorem A1.Ls.Ac (hk:Ax Tryz.prog A1.Ls.A6) (h:∀ (x:Int),A1.Ls.pre [.i x]=true→A8 A1.Ls.E Tryz.f141 [.int .u64 x] (A1.Ls.out [.i x])):A1.Ls.Kn :=
  Ak (Az hk _ _ _) Tryz.func141 (by kernel_rfl) (by kernel_rfl) h
def A1.Kind.A6:List (Nat × Entry):=[(141,A1.Ls.spec),(140,A1.Power.spec)]
def A1.Kind.E:Env:=A9 (A5 A1.Kind.A6) (fun _=>false) (fun _=>none) (fun _=>none)
theorem A1.Kind.ev (N:Nat) (x:Int):Bq A1.Kind.E N Tryz.f62 (An Tryz.f62) [.int .u64 x]=bif (Kv x) then bif ((Lv x)==(2047:Int)) then bif (Kv x) then bif ((C6 x)==(0:Int)) then some (.int .i64 3) else some (.int .i64 4) else none else bif (Kv x) then bif (A4 0 (Lv x)) then some (.int .i64 2) else bif (Kv x) then bif (A4 0 (C6 x)) then some (.int .i64 1) else some (.int .i64 0) else none else none else none:=by kernel_rfl
abbrev _root_.Go.Proofs.S1.A1.Kind.Kn:=A3 Tryz.prog 62 A1.Kind.spec
theorem A1.Kind.Ac (hk:Ax Tryz.prog A1.Kind.A6) (h:∀ (x:Int),A1.Kind.pre [.i x]=true→A8 A1.Kind.E Tryz.f62 [.int .u64 x] (A1.Kind.out [.i x])):A1.Kind.Kn :=
  Ak (Az hk _ _ _) Tryz.func62 (by kernel_rfl) (by kernel_rfl) h
def A1.Finite.A6:List (Nat × Entry):=[(140,A1.Power.spec)]
def A1.Finite.E:Env:=A9 (A5 A1.Finite.A6) (fun _=>false) (fun _=>none) (fun _=>none)
theorem A1.Finite.ev (N:Nat) (x:Int):Bq A1.Finite.E N Tryz.f131 (An Tryz.f131) [.int .u64 x]=bif (Kv x) then some (.bool (A4 (Lv x) 2047)) else none:=by kernel_rfl
abbrev _root_.Go.Proofs.S1.A1.Finite.Kn:=A3 Tryz.prog 131 A1.Finite.spec
theorem A1.Finite.Ac (hk:Ax Tryz.prog A1.Finite.A6) (h:∀ (x:Int),A1.Finite.pre [.i x]=true→A8 A1.Finite.E Tryz.f131 [.int .u64 x] (A1.Finite.out [.i x])):A1.Finite.Kn :=
  Ak (Az hk _ _ _) Tryz.func131 (by kernel_rfl) (by kernel_rfl) h
def A1.Dp.A6:List (Nat × Entry):=[(142,A1.Neg.spec)]
def A1.Dp.E:Env:=A9 (A5 A1.Dp.A6) (fun _=>false) (fun _=>none) (fun _=>none)
theorem A1.Dp.ev (N:Nat) (x:Int):Bq A1.Dp.E N Tryz.f163 (An Tryz.f163) [.int .u64 x]=bif (Af x) then bif (Dt x) then some (.int .u64 (Bk (x-9223372036854775808))) else some (.int .u64 (Bk (x+9223372036854775808))) else none:=by kernel_rfl
abbrev _root_.Go.Proofs.S1.A1.Dp.Kn:=A3 Tryz.prog 163 A1.Dp.spec
theorem A1.Dp.Ac (hk:Ax Tryz.prog A1.Dp.A6) (h:∀ (x:Int),A1.Dp.pre [.i x]=true→A8 A1.Dp.E Tryz.f163 [.int .u64 x] (A1.Dp.out [.i x])):A1.Dp.Kn :=
  Ak (Az hk _ _ _) Tryz.func163 (by kernel_rfl) (by kernel_rfl) h
def E0.Canon.A6:List (Nat × Entry):=[(62,A1.Kind.spec)]
def E0.Canon.E:Env:=A9 (A5 E0.Canon.A6) (fun _=>false) (fun _=>none) (fun _=>none)
theorem E0.Canon.ev (N:Nat) (x:Int):Bq E0.Canon.E N Tryz.f168 (An Tryz.f168) [.int .u64 x]=bif (Kv x) then bif ((Bd x)==(4:Int)) then some (.int .u64 9221120237041090560) else some (.int .u64 x) else none:=by kernel_rfl
abbrev _root_.Go.Proofs.S1.E0.Canon.Kn:=A3 Tryz.prog 168 E0.Canon.spec
theorem E0.Canon.Ac (hk:Ax Tryz.prog E0.Canon.A6) (h:∀ (x:Int),E0.Canon.pre [.i x]=true→A8 E0.Canon.E Tryz.f168 [.int .u64 x] (E0.Canon.out [.i x])):E0.Canon.Kn :=
  Ak (Az hk _ _ _) Tryz.func168 (by kernel_rfl) (by kernel_rfl) h
abbrev _root_.Go.Proofs.S1.E0.Canon.nb.Kn:Prop:=A3 Tryz.prog 168 E0.Canon.nb.spec
end EqRefD
open EqRefD
theorem J4 (n m:Nat):Int.tdiv (n:Int) (m:Int)=((n / m:Nat):Int):=rfl
theorem J3 (n m:Nat):Int.tmod (n:Int) (m:Int)=((n%m:Nat):Int):=rfl
theorem Asm:(9223372036854775808:Int)=((2^63:Nat):Int):=rfl
theorem Asn:(4503599627370496:Int)=((2^52:Nat):Int):=rfl
theorem A1.Neg.known:A1.Neg.Kn:=A1.Neg.Ac .nil fun x hp=>by
  obtain ⟨n,rfl,hn⟩:=Bm (x:=x) hp
  refine ⟨0,A1.Neg.out [.i n],[],?_,.bool⟩
  rw [A1.Neg.ev,Asm,J4,Dn (by omega) (by omega)]
  show _=some (DV.bool (Dt n))
  unfold Dt Bt
  rw [Ayu]
  congr 2
  rw [Ay8]
  simp only [beq_iff_eq,Ayz]
  omega
theorem A1.Power.known:A1.Power.Kn:=A1.Power.Ac .nil fun x hp=>by
  obtain ⟨n,rfl⟩:=Uk (x:=x) hp
  refine ⟨0,A1.Power.out [.i n],[],?_,.int⟩
  rw [A1.Power.ev,Asm,Asn,J3,J4,Dn (by omega) (by omega),Al (by omega) (by omega)]
  show _=some (DV.int .i64 (Lv n))
  unfold Lv Dz
  rw [Ayu]
  congr 2
  have:n%2^63 / 2^52=n / 2^52%2048:=by omega
  rw [this]
theorem A1.Ls.known:A1.Ls.Kn:=A1.Ls.Ac .nil fun x hp=>by
  obtain ⟨n,rfl⟩:=Uk (x:=x) hp
  refine ⟨0,A1.Ls.out [.i n],[],?_,.int⟩
  rw [A1.Ls.ev,Asn,J3]
  rfl
theorem A1.Kind.known:A1.Kind.Kn:=A1.Kind.Ac (.cons A1.Ls.known (.cons A1.Power.known .nil)) fun x hp=>by
  obtain ⟨n,rfl⟩:=Uk (x:=x) hp
  refine ⟨0,A1.Kind.out [.i n],[],?_,.int⟩
  rw [A1.Kind.ev,Ir]
  show _=some (DV.int .i64 (Bd n))
  unfold Bd Am Lv C6
  simp only [Ayu,Ays,As]
  have:=Ji n
  by_cases h1:Dz n=2047
  · by_cases h2:Da n=0
    · simp [h1,h2]
    · have:((Da n:Int)==0)=false:=by simp; exact h2
      simp [h1,this,h2]
  · have h1':((Dz n:Int)==2047)=false:=by simp; omega
    rw [h1']
    by_cases h3:0<Dz n
    · simp [h1,h3]
    · by_cases h4:0<Da n
      · simp [h1,h3,h4]
      · simp [h1,h3,h4]
theorem A1.Finite.known:A1.Finite.Kn:=A1.Finite.Ac (.cons A1.Power.known .nil) fun x hp=>by
  obtain ⟨n,rfl,hn⟩:=Bm (x:=x) hp
  refine ⟨0,A1.Finite.out [.i n],[],?_,.bool⟩
  rw [A1.Finite.ev,Ir,Ays,As]
  show _=some (DV.bool (Cv n))
  unfold Cv Kb Lv
  rw [Ayu]
  have:decide ((Dz n:Int)<2047)=decide (Dz n<2047):=decide_eq_decide.2 (by omega)
  rw [this]
theorem A1.Dp.known:A1.Dp.Kn:=A1.Dp.Ac (.cons A1.Neg.known .nil) fun x hp=>by
  obtain ⟨n,rfl,hn⟩:=Bm (x:=x) hp
  refine ⟨0,A1.Dp.out [.i n],[],?_,.int⟩
  rw [A1.Dp.ev,Cb hn,Ays]
  show _=some (DV.int .u64 (Db n))
  unfold Db Hi Dt Bt
  rw [Ayu,Oe,Oe]
  by_cases h:2^63≤n
  · have e:((n:Int)-9223372036854775808)%18446744073709551616=((n-2^63:Nat):Int):=by omega
    rw [if_pos h,Ayt h,Ays,e]
  · have e:((n:Int)+9223372036854775808)%18446744073709551616=((n+2^63:Nat):Int):=by omega
    rw [if_neg h,Ayx h,Ayw,e]
theorem E0.Canon.known:E0.Canon.Kn:=E0.Canon.Ac (.cons A1.Kind.known .nil) fun x hp=>by
  obtain ⟨n,rfl⟩:=Uk (x:=x) hp
  refine ⟨0,E0.Canon.out [.i n],[],?_,.int⟩
  rw [E0.Canon.ev,Ir,Ays]
  show _=some (DV.int .u64 (Zv n))
  unfold Zv Dx Bd
  rw [Ayu]
  by_cases h:Am n=4
  · have:((Am n:Int)==4)=true:=by simp; omega
    rw [this,if_pos h]; rfl
  · have:((Am n:Int)==4)=false:=by simp; omega
    rw [this,if_neg h]; rfl
theorem Aln {n m:Nat} (h:P9 n m):Dx n=Dx m:=by
  rcases h with rfl | ⟨h1,h2⟩
  · rfl
  · unfold Fl at h1 h2
    rw [Yq n] at h1
    rw [Yq m] at h2
    unfold Dx
    rw [if_pos (of_decide_eq_true h1),if_pos (of_decide_eq_true h2)]
theorem Aqw {c:Ctx} {w:World} {d:DV} {vs:List Value} (h:Bc c w [d] vs):∃ v,vs=[v]∧Ao c w d v:=by
  simp only [Bc] at h
  obtain ⟨u,us,rfl,hv,rfl⟩:=h
  exact ⟨u,rfl,hv⟩
theorem E0.Canon.Ans:E0.Canon.nb.Kn:=by
  refine ⟨fun args ha=>?_,E0.Canon.known.call⟩
  unfold E0.Canon.nb.spec entry at ha ⊢
  simp only at ha ⊢
  cases hd:Mk [.nb] args with
  | none=>rw [hd] at ha; cases ha
  | some bs =>
    rw [hd] at ha
    obtain ⟨ds,h1,h2⟩:=Mj hd
    obtain ⟨x,_,_,rfl,rfl,he⟩:=h1.Atq
    obtain ⟨rfl,rfl⟩:=he.Ac1
    refine Oc.args (args:=[.nb x]) ?_ h2
    intro w vals I hI hl
    obtain ⟨v,hv,hr⟩:=Aqw hl
    simp only [Ao] at hr
    obtain ⟨m,rfl,hm⟩:=hr
    have e:E0.Canon.nb.out [.f x]=E0.Canon.spec.out [.int .u64 (m:Int)]:=by
      show DV.int .u64 (Fw x)=DV.int .u64 (Zv (m:Int))
      unfold Fw Zv
      rw [Ayu,Aln hm]
    show Calls _ _ _ _ fun e' w'=>∃ v own,e'=.returned v∧Go.RowKit.Below w.heap.size w w'∧Ajv own w w'∧Ao (Dw I own w w') w' (E0.Canon.nb.out [.f x]) v
    rw [e]
    exact E0.Canon.known.meets [.int .u64 (m:Int)] (Ir m) w vals I hI (by rw [hv]; exact ⟨_,_,rfl,rfl,rfl⟩)
namespace EqRefA
def Ai.Jy.A6:List (Nat × Entry):=[]
def Ai.Jy.E:Env:=A9 (A5 Ai.Jy.A6) (fun _=>false) (fun _=>none) (fun _=>none)
theorem Ai.Jy.ev (N:Nat) (l:List Int) (i:Int):Bq Ai.Jy.E N Tryz.f221 (An Tryz.f221) [.ints .arg .u32 l,.int .i64 i]=bif ((D6 0 i)&&(A4 i (List.length l:Int))) then bif ((decide (0≤i))&&(decide (i<(List.length l:Int)))) then some (.int .u64 (Bk (List.getD l (Int.toNat i) 0))) else none else some (.int .u64 0) :=
  Eq.trans (by kernel_rfl)
  (Av (N2 (D6 0 i)) (Av (N2 (D6 0 i)) (Av (Lt (D6 0 i)) (Av (Xs (D6 0 i)) (Av (Sr (D6 0 i)) (C0 (tt1 (D6 0 i) (A4 i (List.length l:Int))) rfl rfl))))))
abbrev _root_.Go.Proofs.S1.Ai.Jy.Kn:=A3 Tryz.prog 221 Ai.Jy.spec
theorem Ai.Jy.Ac (hk:Ax Tryz.prog Ai.Jy.A6) (h:∀ (l:List Int) (i:Int),Ai.Jy.pre [.l l,.i i]=true→A8 Ai.Jy.E Tryz.f221 [.ints .arg .u32 l,.int .i64 i] (Ai.Jy.out [.l l,.i i])):Ai.Jy.Kn :=
  Ak (Az hk _ _ _) Tryz.func221 (by kernel_rfl) (by kernel_rfl) h
def Ai.Made.hint:Nat→Option Ba
  | 0=>some { keep:=[0,1,4,5],objs:=[],boxes:=[4] }
  | _=>none
def Ai.Made.A6:List (Nat × Entry):=[]
def Ai.Made.E:Env:=A9 (A5 Ai.Made.A6) (fun _=>false) Ai.Made.hint (fun _=>none)
def Ai.Made.L0 (N M:Nat) (n:Bool) (l:List Int) (p5:Int):Option DV:=B0 Ai.Made.E N Tryz.f171 (An Tryz.f171) [1,1,0,0] [] M ⟨Gj 28 [(0,.bool n),(1,.ints .arg .u32 l),(4,.ptr 4 0 0),(5,.int .i64 p5)],[(4,false,.box [.bool false,.nil])]⟩
theorem Ai.Made.Ar (N M:Nat) (n:Bool) (l:List Int) (p5:Int):Ai.Made.L0 N (M+1) n l p5=bif ((!(A4 0 p5))||((decide (0≤(Ab (p5-1))))&&(decide ((Ab (p5-1))<(List.length l:Int))))) then bif ((A4 0 p5)&&((List.getD l (Int.toNat (Ab (p5-1))) 0)==(0:Int))) then Ai.Made.L0 N M n l (Ab (p5-1)) else bif (p5==(0:Int)) then some (.agg [.bool false,.nil]) else bif ((decide ((0:Int)≤p5))&&(decide (p5≤(List.length l:Int)))) then some (.agg [.bool n,.ints .arg .u32 (List.take (Int.toNat p5) l)]) else none else none :=
  Eq.trans (by kernel_rfl)
  (Av (N2 (A4 0 p5)) (Av (N2 (A4 0 p5)) (Av (Lt (A4 0 p5)) (C0 (Axn (A4 0 p5) (decide (0≤(Ab (p5-1)))) (decide ((Ab (p5-1))<(List.length l:Int)))) (Av (Lt (A4 0 p5)) (Av (Lt (A4 0 p5)) (Av (Sr (A4 0 p5)) (C0 (tt1 (A4 0 p5) ((List.getD l (Int.toNat (Ab (p5-1))) 0)==(0:Int))) rfl (Eh rfl (C0 (Ko (decide ((0:Int)≤p5)) (decide (p5≤(List.length l:Int)))) rfl rfl)))))) rfl))))
theorem Ai.Made.ev (N:Nat) (n:Bool) (l:List Int):Bq Ai.Made.E N Tryz.f171 (An Tryz.f171) [.bool n,.ints .arg .u32 l] =
  Ai.Made.L0 N N n l (List.length l:Int):=by kernel_rfl
abbrev _root_.Go.Proofs.S1.Ai.Made.Kn:=A3 Tryz.prog 171 Ai.Made.spec
theorem Ai.Made.Ac (hk:Ax Tryz.prog Ai.Made.A6) (h:∀ (n:Bool) (l:List Int),Ai.Made.pre [.b n,.l l]=true→A8 Ai.Made.E Tryz.f171 [.bool n,.ints .arg .u32 l] (Ai.Made.out [.b n,.l l])):Ai.Made.Kn :=
  Ak (Az hk _ _ _) Tryz.func171 (by kernel_rfl) (by kernel_rfl) h
def Ai.Of.A6:List (Nat × Entry):=[(171,Ai.Made.spec)]
def Ai.Of.E:Env:=A9 (A5 Ai.Of.A6) (fun _=>false) (fun _=>none) (fun _=>none)
theorem Ai.Of.ev (N:Nat) (n:Int):Bq Ai.Of.E N Tryz.f115 (An Tryz.f115) [.int .i64 n]=bif (A4 n 0) then bif (Hs [(J1 (Int.tmod (Bk ((Bk (Ab (0-(Ab (n+1)))))+1)) 4294967296)),(J1 (Bk (Int.tdiv (Bk ((Bk (Ab (0-(Ab (n+1)))))+1)) 4294967296)))]) then some (.agg [.bool (Bj (wv true [(J1 (Int.tmod (Bk ((Bk (Ab (0-(Ab (n+1)))))+1)) 4294967296)),(J1 (Bk (Int.tdiv (Bk ((Bk (Ab (0-(Ab (n+1)))))+1)) 4294967296)))])),.ints .arg .u32 (Ap (wv true [(J1 (Int.tmod (Bk ((Bk (Ab (0-(Ab (n+1)))))+1)) 4294967296)),(J1 (Bk (Int.tdiv (Bk ((Bk (Ab (0-(Ab (n+1)))))+1)) 4294967296)))]))]) else none else bif (Hs [(J1 (Int.tmod n 4294967296)),(J1 (Ab (Int.tdiv n 4294967296)))]) then some (.agg [.bool (Bj (wv false [(J1 (Int.tmod n 4294967296)),(J1 (Ab (Int.tdiv n 4294967296)))])),.ints .arg .u32 (Ap (wv false [(J1 (Int.tmod n 4294967296)),(J1 (Ab (Int.tdiv n 4294967296)))]))]) else none:=by kernel_rfl
abbrev _root_.Go.Proofs.S1.Ai.Of.Kn:=A3 Tryz.prog 115 Ai.Of.spec
theorem Ai.Of.Ac (hk:Ax Tryz.prog Ai.Of.A6) (h:∀ (n:Int),Ai.Of.pre [.i n]=true→A8 Ai.Of.E Tryz.f115 [.int .i64 n] (Ai.Of.out [.i n])):Ai.Of.Kn :=
  Ak (Az hk _ _ _) Tryz.func115 (by kernel_rfl) (by kernel_rfl) h
def Ai.Iy.hint:Nat→Option Ba
  | 0=>some { keep:=[0,1,5],objs:=[],boxes:=[] }
  | _=>none
def Ai.Iy.A6:List (Nat × Entry):=[(221,Ai.Jy.spec)]
def Ai.Iy.E:Env:=A9 (A5 Ai.Iy.A6) (fun _=>false) Ai.Iy.hint (fun _=>none)
def Ai.Iy.L0 (N M:Nat) (a b:List Int) (p5:Int):Option DV:=B0 Ai.Iy.E N Tryz.f176 (An Tryz.f176) [1,0,1,0] [] M ⟨Gj 29 [(0,.ints .arg .u32 a),(1,.ints .arg .u32 b),(5,.int .i64 p5)],[]⟩
theorem Ai.Iy.Ar (N M:Nat) (a b:List Int) (p5:Int):Ai.Iy.L0 N (M+1) a b p5=bif (D6 0 p5) then bif (Hs a) then bif (Hs b) then bif (A4 (G4 a p5) (G4 b p5)) then some (.int .i64 (-1:Int)) else bif (Hs a) then bif (Hs b) then bif (A4 (G4 b p5) (G4 a p5)) then some (.int .i64 1) else Ai.Iy.L0 N M a b (Ab (p5-1)) else none else none else none else none else some (.int .i64 0):=by kernel_rfl
theorem Ai.Iy.ev (N:Nat) (a b:List Int):Bq Ai.Iy.E N Tryz.f176 (An Tryz.f176) [.ints .arg .u32 a,.ints .arg .u32 b] =
  Ai.Iy.L0 N N a b (max (List.length a:Int) (List.length b:Int)):=by kernel_rfl
abbrev _root_.Go.Proofs.S1.Ai.Iy.Kn:=A3 Tryz.prog 176 Ai.Iy.spec
theorem Ai.Iy.Ac (hk:Ax Tryz.prog Ai.Iy.A6) (h:∀ (a b:List Int),Ai.Iy.pre [.l a,.l b]=true→A8 Ai.Iy.E Tryz.f176 [.ints .arg .u32 a,.ints .arg .u32 b] (Ai.Iy.out [.l a,.l b])):Ai.Iy.Kn :=
  Ak (Az hk _ _ _) Tryz.func176 (by kernel_rfl) (by kernel_rfl) h
def Ai.plus.hint:Nat→Option Ba
  | 0=>some { keep:=[0,1,5,6,7],objs:=[(0,5,100005,.ints 173 .u32 [])],boxes:=[] }
  | _=>none
def Ai.plus.A6:List (Nat × Entry):=[(221,Ai.Jy.spec)]
def Ai.plus.E:Env:=A9 (A5 Ai.plus.A6) (fun _=>false) Ai.plus.hint (fun _=>none)
def Ai.plus.L0 (N M:Nat) (a b:List Int) (p6 p7:Int) (p5:List Int):Option DV:=B0 Ai.plus.E N Tryz.f174 (An Tryz.f174) [1,1,1,0,1,0] [] M ⟨Gj 37 [(0,.ints .arg .u32 a),(1,.ints .arg .u32 b),(5,.oref 100005),(6,.int .u64 p6),(7,.int .i64 p7)],[(100005,false,.ints 173 .u32 p5)]⟩
theorem Ai.plus.Ar (N M:Nat) (a b:List Int) (p6 p7:Int) (p5:List Int):Ai.plus.L0 N (M+1) a b p6 p7 p5=bif (D6 p7 (max (List.length a:Int) (List.length b:Int))) then bif (Hs a) then bif (Hs b) then bif (decide ((List.length p5)+1≤Gt)) then Ai.plus.L0 N M a b (Bk (Int.tdiv (Bk ((Bk ((G4 a p7)+(G4 b p7)))+p6)) 4294967296)) (Ab (p7+1)) (p5++[(J1 (Int.tmod (Bk ((Bk ((G4 a p7)+(G4 b p7)))+p6)) 4294967296))]) else none else none else none else some (.ints (.own 100005 173) .u32 p5):=by kernel_rfl
theorem Ai.plus.ev (N:Nat) (a b:List Int):Bq Ai.plus.E N Tryz.f174 (An Tryz.f174) [.ints .arg .u32 a,.ints .arg .u32 b] =
  Ai.plus.L0 N N a b 0 0 []:=by kernel_rfl
abbrev _root_.Go.Proofs.S1.Ai.plus.Kn:=A3 Tryz.prog 174 Ai.plus.spec
theorem Ai.plus.Ac (hk:Ax Tryz.prog Ai.plus.A6) (h:∀ (a b:List Int),Ai.plus.pre [.l a,.l b]=true→A8 Ai.plus.E Tryz.f174 [.ints .arg .u32 a,.ints .arg .u32 b] (Ai.plus.out [.l a,.l b])):Ai.plus.Kn :=
  Ak (Az hk _ _ _) Tryz.func174 (by kernel_rfl) (by kernel_rfl) h
def Ai.minus.hint:Nat→Option Ba
  | 0=>some { keep:=[0,1,5,6,7],objs:=[(0,5,100005,.ints 173 .u32 [])],boxes:=[] }
  | _=>none
def Ai.minus.A6:List (Nat × Entry):=[(221,Ai.Jy.spec)]
def Ai.minus.E:Env:=A9 (A5 Ai.minus.A6) (fun _=>false) Ai.minus.hint (fun _=>none)
def Ai.minus.L0 (N M:Nat) (a b:List Int) (p6 p7:Int) (p5:List Int):Option DV:=B0 Ai.minus.E N Tryz.f177 (An Tryz.f177) [1,1,1,0,1,0] [] M ⟨Gj 36 [(0,.ints .arg .u32 a),(1,.ints .arg .u32 b),(5,.oref 100005),(6,.int .u64 p6),(7,.int .i64 p7)],[(100005,false,.ints 173 .u32 p5)]⟩
theorem Ai.minus.Ar (N M:Nat) (a b:List Int) (p6 p7:Int) (p5:List Int):Ai.minus.L0 N (M+1) a b p6 p7 p5=bif (A4 p7 (List.length a:Int)) then bif (Hs a) then bif (Hs b) then bif (decide ((List.length p5)+1≤Gt)) then Ai.minus.L0 N M a b (Bk ((1:Int)-(Bk (Int.tdiv (Bk ((Bk ((Bk ((4294967296:Int)+(G4 a p7)))-(G4 b p7)))-p6)) 4294967296)))) (Ab (p7+1)) (p5++[(J1 (Int.tmod (Bk ((Bk ((Bk ((4294967296:Int)+(G4 a p7)))-(G4 b p7)))-p6)) 4294967296))]) else none else none else none else some (.ints (.own 100005 173) .u32 p5):=by kernel_rfl
theorem Ai.minus.ev (N:Nat) (a b:List Int):Bq Ai.minus.E N Tryz.f177 (An Tryz.f177) [.ints .arg .u32 a,.ints .arg .u32 b] =
  Ai.minus.L0 N N a b 0 0 []:=by kernel_rfl
abbrev _root_.Go.Proofs.S1.Ai.minus.Kn:=A3 Tryz.prog 177 Ai.minus.spec
theorem Ai.minus.Ac (hk:Ax Tryz.prog Ai.minus.A6) (h:∀ (a b:List Int),Ai.minus.pre [.l a,.l b]=true→A8 Ai.minus.E Tryz.f177 [.ints .arg .u32 a,.ints .arg .u32 b] (Ai.minus.out [.l a,.l b])):Ai.minus.Kn :=
  Ak (Az hk _ _ _) Tryz.func177 (by kernel_rfl) (by kernel_rfl) h
def Ai.Add.A6:List (Nat × Entry):=[(171,Ai.Made.spec),(176,Ai.Iy.spec),(177,Ai.minus.spec),(174,Ai.plus.spec)]
def Ai.Add.E:Env:=A9 (A5 Ai.Add.A6) (fun _=>false) (fun _=>none) (fun _=>none)
theorem Ai.Add.ev (N:Nat) (n:Bool) (a:List Int) (m:Bool) (b:List Int):Bq Ai.Add.E N Tryz.f112 (An Tryz.f112) [.agg [.bool n,.ints .arg .u32 a],.agg [.bool m,.ints .arg .u32 b]]=bif (n==m) then bif (Hs a&&Hs b) then bif (Hs (J7 a b)) then some (.agg [.bool (Bj (wv n (J7 a b))),.ints .arg .u32 (Ap (wv n (J7 a b)))]) else none else none else bif (Hs a&&Hs b) then bif (A4 (V3 (Cr a) (Cr b)) 0) then bif ((Hs b&&Hs a)&&leL a b) then bif (Hs (Hj b a)) then some (.agg [.bool (Bj (wv m (Hj b a))),.ints .arg .u32 (Ap (wv m (Hj b a)))]) else none else none else bif ((Hs a&&Hs b)&&leL b a) then bif (Hs (Hj a b)) then some (.agg [.bool (Bj (wv n (Hj a b))),.ints .arg .u32 (Ap (wv n (Hj a b)))]) else none else none else none :=
  Eq.trans (by kernel_rfl)
  (Eh (C0 (Cx (Hs a&&Hs b)) (C0 (Cx (Hs (J7 a b))) rfl rfl) rfl) (Eh (Eh (C0 (Cx ((Hs b&&Hs a)&&leL a b)) (C0 (Cx (Hs (Hj b a))) rfl rfl) rfl) (C0 (Cx ((Hs a&&Hs b)&&leL b a)) (C0 (Cx (Hs (Hj a b))) rfl rfl) rfl)) rfl))
abbrev _root_.Go.Proofs.S1.Ai.Add.Kn:=A3 Tryz.prog 112 Ai.Add.spec
theorem Ai.Add.Ac (hk:Ax Tryz.prog Ai.Add.A6) (h:∀ (n:Bool) (a:List Int) (m:Bool) (b:List Int),Ai.Add.pre [.b n,.l a,.b m,.l b]=true→A8 Ai.Add.E Tryz.f112 [.agg [.bool n,.ints .arg .u32 a],.agg [.bool m,.ints .arg .u32 b]] (Ai.Add.out [.b n,.l a,.b m,.l b])):Ai.Add.Kn :=
  Ak (Az hk _ _ _) Tryz.func112 (by kernel_rfl) (by kernel_rfl) h
def Ai.Neg.A6:List (Nat × Entry):=[(171,Ai.Made.spec)]
def Ai.Neg.E:Env:=A9 (A5 Ai.Neg.A6) (fun _=>false) (fun _=>none) (fun _=>none)
theorem Ai.Neg.ev (N:Nat) (n:Bool) (a:List Int):Bq Ai.Neg.E N Tryz.f143 (An Tryz.f143) [.agg [.bool n,.ints .arg .u32 a]]=bif (Hs a) then some (.agg [.bool (Bj (wv (!n) a)),.ints .arg .u32 (Ap (wv (!n) a))]) else none:=by kernel_rfl
abbrev _root_.Go.Proofs.S1.Ai.Neg.Kn:=A3 Tryz.prog 143 Ai.Neg.spec
theorem Ai.Neg.Ac (hk:Ax Tryz.prog Ai.Neg.A6) (h:∀ (n:Bool) (a:List Int),Ai.Neg.pre [.b n,.l a]=true→A8 Ai.Neg.E Tryz.f143 [.agg [.bool n,.ints .arg .u32 a]] (Ai.Neg.out [.b n,.l a])):Ai.Neg.Kn :=
  Ak (Az hk _ _ _) Tryz.func143 (by kernel_rfl) (by kernel_rfl) h
end EqRefA
end Go.Proofs.S1
end
