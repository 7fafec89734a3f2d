/- A verified evaluator of the program's form and its use for this seat: TriL, HouW, LseW, GgW, RidW, S1Specs, S1Tt, S1EqSoft, S1PSoft, S1EqRefD, S1PRefD, S1EqRefA. -/
import Derived.Test.YtjbokjpbiobjpaaGreatTE
set_option linter.unusedVariables false
set_option linter.unusedSimpArgs false
noncomputable section
namespace Go.Rnd
open Go.Den
theorem Aq9 {a b:Nat}:(Ac1 a b).1<2^64:=by
  have h1:D8<2^63:=by decide
  have hs:∀ (s:Bool) {r:Nat},r<2^63→Bk s r<2^64:=by
    intro s r h
    unfold Bk
    cases s
    · rw [if_neg (by decide)]; omega
    · rw [if_pos rfl]; omega
  have hN:P0<2^64:=by decide
  unfold Ac1
  by_cases c1:Al a=4∨Al b=4
  · rw [if_pos c1]; exact hN
  rw [if_neg c1]
  by_cases c2:Al a=Al b∧(Al a=3∨Al a=0)
  · rw [if_pos c2]; exact hN
  rw [if_neg c2]
  by_cases c3:Al a=3
  · rw [if_pos c3]; exact hs _ h1
  rw [if_neg c3]
  by_cases c4:Al b=3∨Al a=0
  · rw [if_pos c4]; exact hs _ (by decide)
  rw [if_neg c4]
  by_cases c5:Al b=0
  · rw [if_pos c5]; exact hs _ h1
  rw [if_neg c5]
  exact hs _ (Wx _ _)
theorem Ac0 (a b:Int):Af (Fa a b)=true:=B9 Aq9
theorem Nv {a b:Int} (ha:Af a=true) (hb:Af b=true):Af (Eu a b)=true:=by
  obtain ⟨x,rfl,hx⟩:=Bl ha
  obtain ⟨y,rfl,hy⟩:=Bl hb
  exact B9 (Uz (by rw [Axv]; exact hx) (Vi (by rw [Axv]; exact hy))).1
theorem Ge {r c:Nat} {f:Nat→Nat→Int} (h:∀ i k,Af (f i k)=true):Ai (B5 r c f)=true:=Ar.2 fun x hx=>by
  obtain ⟨j,_,rfl⟩:=List.mem_map.1 hx
  exact h _ _
theorem Jg (a b:Int):Af (D1 a b)=true:=B9 Rg
theorem Mm (c:Int) (l:List Int) (b:Nat→Int) (n:Nat):∀ k,(Z8 c l b n k).length=k
  | 0=>rfl
  | k+1=>by rw [Z8,List.length_cons,Mm c l b n k]
theorem Agb (c:Int) (l:List Int) (b:Nat→Int) (n:Nat):∀ k,∀ x∈Z8 c l b n k,Af x=true
  | 0,x,h=>by cases h
  | k+1,x,h=>by
    rw [Z8] at h
    rcases List.mem_cons.1 h with rfl | h
    · exact Ac0 _ _
    · exact Agb c l b n k x h
theorem Ado (c:Int) (l:List Int) (b:Nat→Int) (n k:Nat):∀ d,(Z8 c l b n (k+d)).drop d=Z8 c l b n k
  | 0=>rfl
  | d+1=>by
    rw [← Nat.add_assoc,Z8,List.drop_succ_cons]
    exact Ado c l b n k d
theorem Adn {c:Int} {l:List Int} {b:Nat→Int} {n k:Nat} (h:k≤n):(Z8 c l b n n).drop (n-k)=Z8 c l b n k:=by
  have:=Ado c l b n k (n-k)
  rw [Nat.add_sub_cancel' h] at this
  exact this
theorem Ah5 {c:Int} {l:List Int} {b:Nat→Int} {n i:Nat} (h:i<n) :
    (Z8 c l b n n).getD i 0=Fa (Qi c l (i:Int) (b i) ((i+1:Nat):Int) ((Z8 c l b n n).drop (i+1))) (D6 c l (i:Int) (i:Int)):=by
  have e1:=Adn (c:=c) (l:=l) (b:=b) (n:=n) (k:=n-i) (by omega)
  have e2:=Adn (c:=c) (l:=l) (b:=b) (n:=n) (k:=n-i-1) (by omega)
  rw [show n-(n-i)=i by omega] at e1
  rw [show n-(n-i-1)=i+1 by omega] at e2
  rw [e2]
  have e3:(Z8 c l b n n).getD i 0=((Z8 c l b n n).drop i).getD 0 0:=by
    rw [Ax3,Ax3,List.getElem?_drop,Nat.add_zero]
  rw [e3,e1,show n-i=(n-i-1)+1 by omega,Z8]
  have e4:n-1-(n-i-1)=i:=by omega
  have e5:n-(n-i-1)=i+1:=by omega
  rw [e4,e5]
  rfl
theorem W8 {l:List Int} (h:∀ x∈l,Af x=true) (i:Nat):Af (l.getD i 0)=true:=by
  rw [Ax3]
  cases hi:l[i]? with
  | none=>exact B9 (n:=0) (by decide)
  | some x=>exact h x (List.mem_of_getElem? hi)
theorem Aa1 {c:Int} {l:List Int} {i s j:Int} {xs:List Int} {t:Nat} (h:t<xs.length):Qi c l i s j (xs.drop t)=Qi c l i (Eu s (D1 (D6 c l i j) (xs.getD t 0))) (j+1) (xs.drop (t+1)):=by
  rw [List.drop_eq_getElem_cons h,Qi,Ax3,Aya h]; rfl
theorem Anr (c:Int) (l:List Int) (b:Nat→Int):∀ k,∀ x∈loL c l b k,Af x=true
  | 0,x,h=>by cases h
  | k+1,x,h=>by
    rw [loL] at h
    rcases List.mem_append.1 h with h | h
    · exact Anr c l b k x h
    · rw [List.mem_singleton.1 h]; exact Ac0 _ _
end Go.Rnd
namespace Go.Rnd
open Go.Den
def As3:Int:=4607182418800017408
def Fq (x:Int):Int:=(N9 x.toNat).1
def P8 (x:Int):Int:=(N9 x.toNat).2
def Ad0 (k:Int):Int→List Int→Int
  | s,[]=>s
  | s,x::l=>Ad0 k (Jq s (D1 (Bw x k) (Bw x k))) l
def Df (x:List Int):Int :=
  if Be x=0∨Cq (Be x)=false then Be x else Bw (Fq (Ad0 (-Bq (Be x)) 0 x)) (Bq (Be x))
def Ea (l:List Int):Bool:=l.all fun x=>decide (Bd x=0)
def Oo:List Int→Int
  | []=>0
  | x::l=>if Bd x=0 then Oo l else x
def Bm (l:List Int) (k:Int):List Int:=l.map fun x=>Bw x k
def I6 (n:Nat) (f:Nat→Int):List Int:=As3::(List.range (n-1)).map fun j=>f (j+1)
def muI (x:List Int):Int:=if Dp (Oo x)=true then Df (Bm x (-Bq (Be x))) else C5 (Df (Bm x (-Bq (Be x))))
def E4 (x:List Int):Int:=Bw (muI x) (Bq (Be x))
def Aoc (x:List Int):Int:=Bw (x.getD 0 0) (-Bq (Be x))
def R4 (x:List Int):List Int:=I6 x.length fun j=>Fa (Bw (x.getD j 0) (-Bq (Be x))) (Eu (Aoc x) (muI x))
def Ss (x:List Int):Int:=Fa (Eu (muI x) (Aoc x)) (muI x)
def Jh (x:List Int):List Int × Int × Int × Int :=
  if Ea (x.drop 1)=true then (I6 x.length fun _=>0,0,x.getD 0 0,0)
  else if Cq (E4 x)=true then (R4 x,Ss x,E4 x,0) else ([],0,0,2)
def Cg (x:List Int):List Int × Int × Int × Int :=
  if x.length=0∨64<x.length then ([],0,0,3) else if Da x=true then Jh x else ([],0,0,4)
def Cp (c:Int) (l:List Int) (b i:Int) (n:Nat):List Int:=(List.range n).map fun j:Nat=>D6 c l (i+(j:Int)) b
def Ta (c:Int) (l:List Int) (i:Int) (v:List Int) (t b:Int):Int:=D1 t (I9 v (Cp c l b i v.length))
def Pq (c:Int) (l:List Int) (i k:Int) (v:List Int) (t a b:Int):Int :=
  if k≤b∧i≤a∧a<i+v.length then Eu (D6 c l a b) (D1 (Ta c l i v t b) (v.getD (a-i).toNat 0)) else D6 c l a b
def E7 (r c:Nat) (l:List Int) (i k:Int) (v:List Int) (t:Int):List Int:=B5 r c fun a b=>Pq (c:Int) l i k v t (a:Int) (b:Int)
def Hl (r c i k:Int) (v:List Int):Bool:=decide (0≤i∧(v.length:Int)≤r∧i≤r-v.length∧0≤k∧k≤c)
def M3 (r c:Nat) (l:List Int) (j:Nat) (x:Int):List Int:=B5 r c fun a b=>if b=j∧j≤a then (if a=j then x else 0) else D6 (c:Int) l (a:Int) (b:Int)
def E3 (r c:Nat) (l:List Int) (j:Nat):List Int:=Cp (c:Int) l (j:Int) (j:Int) (r-j)
def Yi (r c:Nat) (l:List Int) (j:Nat):List Int:=M3 r c (E7 r c l (j:Int) (j:Int) (Cg (E3 r c l j)).1 (Cg (E3 r c l j)).2.1) j (Cg (E3 r c l j)).2.2.1
def Mz (r c:Nat):Nat→Nat→List Int→Option (List Int × List (List Int × Int))
  | 0,_,l=>some (l,[])
  | n+1,j,l=>if (Cg (E3 r c l j)).2.2.2=0 then
      (Mz r c n (j+1) (Yi r c l j)).map fun x=>(x.1,((Cg (E3 r c l j)).1,(Cg (E3 r c l j)).2.1)::x.2) else none
def H6 (r c:Nat):Nat:=min c (r-1)
def Hd (n:Nat):Nat→List (List Int × Int)→List Int→List Int
  | _,[],q=>q
  | j,m::ms,q=>E7 n n (Hd n (j+1) ms q) (j:Int) 0 m.1 m.2
def J6 (r c:Nat) (l:List Int):Option (List Int × List (List Int × Int)):=Mz r c (H6 r c) 0 l
def Ma (r c:Nat) (l:List Int):List Int:=match J6 r c l with
  | some x=>Hd r 0 x.2 (I1 r)
  | none=>[]
def J5 (r c:Nat) (l:List Int):List Int:=match J6 r c l with
  | some x=>x.1
  | none=>[]
def F6 (r c:Int) (l:List Int):MX:=if (J6 r.toNat c.toNat l).isSome=true then (r,c,J5 r.toNat c.toNat l,0) else Ke 2
def Yh (ms:List (List Int × Int)):List (List DV):=ms.map fun m=>[.ints .arg .u64 m.1,.int .u64 m.2]
def Ko (r c:Int) (l:List Int):List (List DV):=match J6 r.toNat c.toNat l with
  | some x=>Yh x.2
  | none=>[]
def Uf (m:Int):Int:=Sy (m.toNat*2^64)
def Ug (m:Int):Bool:=decide (Sy (m.toNat*2^64)*Sy (m.toNat*2^64)=m.toNat*2^64)
def Px:List Int→Int→Int
  | [],_=>0
  | x::l,i=>if Bd x=0 then Px l (i+1) else i
def Ls (r c:Nat) (l:List Int):Bool:=(J6 r c l).isSome&&(Da (Ma r c l)&&Da (J5 r c l))
def E6 (r c:Int) (l:List Int):Int:=if Cd r c l≠0 then Cd r c l else if Ls r.toNat c.toNat l=true then 0 else 2
def qX (r c:Int) (l:List Int):MX:=if E6 r c l≠0 then Ke (E6 r c l) else (r,r,Ma r.toNat c.toNat l,0)
def rX (r c:Int) (l:List Int):MX:=if E6 r c l≠0 then Ke (E6 r c l) else (r,c,J5 r.toNat c.toNat l,0)
def D7 (r c:Int) (l:List Int):MX:=if E6 r c l≠0 then Ke (E6 r c l) else (r,min r c,(Im r r (Ma r.toNat c.toNat l) 0 0 r (min r c)).2.2.1,0)
def Ig (r c:Int) (l:List Int):MX:=if E6 r c l≠0 then Ke (E6 r c l) else (min r c,c,(Im r c (J5 r.toNat c.toNat l) 0 0 (min r c) c).2.2.1,0)
def Apk (a b:MX) (p q:Int) (m:List Int):MX :=
  if (Dr a.1 a.2.1 a.2.2.1 p q m).2.2.2≠0 then Ke (Dr a.1 a.2.1 a.2.2.1 p q m).2.2.2
  else Tf b.1 b.2.1 b.2.2.1 (Dr a.1 a.2.1 a.2.2.1 p q m).1 (Dr a.1 a.2.1 a.2.2.1 p q m).2.1 (Dr a.1 a.2.1 a.2.2.1 p q m).2.2.1
def Fl (r c:Int) (l:List Int) (p q:Int) (m:List Int):MX :=
  if Cd r c l≠0 then Ke (Cd r c l) else if Cd p q m≠0 then Ke (Cd p q m) else if r<c∨r≠p then Ke 3
  else if E6 r c l≠0 then Ke (E6 r c l)
  else if (Ov (Ig r c l).1 (Ig r c l).2.1 (Ig r c l).2.2.1).1=true then Ke 5
  else Apk (D7 r c l) (Ig r c l) p q m
def Tb (x:Nat):Bool:=Cu (x<2^64)
def Afj (x:Nat):Bool:=Cu (x<2^64∧Al x≠3∧Al x≠4)
def Iq (x:Nat) (k:Int):Nat:=if Al x=4 then x else (Gh x k).1
def L4 (x:Nat):Nat:=if G7 x<4503599627370496 then (Nb x 4841369599423283200).1 else x
def Iz (x:Nat):Int:=if G7 x<4503599627370496 then -52 else 0
def Qr (b:Int):Int:=if Cq b=true then 0 else if Dp b=true then -1 else 1
end Go.Rnd
namespace Go.Rnd
open Go.Den
def mulM (x y:MX):MX:=R3 x.1 x.2.1 x.2.2.1 y.1 y.2.1 y.2.2.1
def Aum (x:MX):MX:=Fm x.1 x.2.1 x.2.2.1
def X8 (x:MX) (i k a b:Int):MX:=Im x.1 x.2.1 x.2.2.1 i k a b
def eqT (p q:Int) (m:List Int):List Int:=(Fm p q m).2.2.1
def eqR (p q:Int) (m:List Int):MX:=rX q p (eqT p q m)
def eqS (p q:Int) (m:List Int):MX:=Aum (X8 (eqR p q m) 0 0 p p)
def hY (p q:Int) (m:List Int) (u v:Int) (h:List Int):MX :=
  if E6 q p (eqT p q m)≠0 then Ke (E6 q p (eqT p q m)) else if (Ov (eqS p q m).1 (eqS p q m).2.1 (eqS p q m).2.2.1).1=true then Ke 5
  else loX (eqS p q m).1 (eqS p q m).2.1 (eqS p q m).2.2.1 u v h
def hQ (p q:Int) (m:List Int):MX :=
  if E6 q p (eqT p q m)≠0 then Ke (E6 q p (eqT p q m)) else if (Ov (eqS p q m).1 (eqS p q m).2.1 (eqS p q m).2.2.1).1=true then Ke 5
  else qX q p (eqT p q m)
def Ahd (x y:MX):MX:=Fl x.1 x.2.1 x.2.2.1 y.1 y.2.1 y.2.2.1
end Go.Rnd
namespace Go.Rnd
open Go.Den
def upM (x y:MX):MX:=Tf x.1 x.2.1 x.2.2.1 y.1 y.2.1 y.2.2.1
def loM (x y:MX):MX:=loX x.1 x.2.1 x.2.2.1 y.1 y.2.1 y.2.2.1
def Au9 (x y:MX):MX:=Au8 x.1 x.2.1 x.2.2.1 y.1 y.2.1 y.2.2.1
def Axk (x:MX):Int:=Cd x.1 x.2.1 x.2.2.1
def N3 (l m h:List Int):Bool:=(Ai l&&Ai m)&&Ai h
def Cy (x:Int) (l:List Int):List Int:=l.map fun y=>D1 x y
def M4 (r c:Int) (l:List Int) (p q:Int) (m:List Int) (u v:Int) (h:List Int):Int :=
  if Cd r c l≠0 then Cd r c l else if Cd p q m≠0 then Cd p q m else Cd u v h
def Oa (r c:Int) (l:List Int) (p q:Int) (m:List Int) (u v:Int) (h:List Int) (x:Int):Int :=
  if M4 r c l p q m u v h≠0 then M4 r c l p q m u v h else if Cq x=false then 4
  else if p≠r∨q≠1∨v≠c∨6<r+u then 3 else if Da (Cy x h)=false then 2 else 0
def Arn (r c:Int) (l:List Int) (u v:Int) (h:List Int) (x:Int):MX:=Dw r c l u v (Cy x h)
def Ad4 (p q:Int) (m:List Int) (u:Int):MX:=Dw p q m (Cx u 1).1 (Cx u 1).2.1 (Cx u 1).2.2.1
def Dy (r c:Int) (l:List Int) (p q:Int) (m:List Int) (u v:Int) (h:List Int) (x:Int):MX :=
  if Oa r c l p q m u v h x≠0 then Ke (Oa r c l p q m u v h x) else Ahd (Arn r c l u v h x) (Ad4 p q m u)
end Go.Rnd
namespace Go.Rnd
open Go.Den
end Go.Rnd
namespace Go.Proofs.S1
open Go Go.Den Go.Rnd
def soft.Split.pre:List Atom→Bool
  | [.i x]=>Af x
  | _=>false
def soft.Split.out:List Atom→DV
  | [.i x]=>.agg [.bool (Dp x),.int .i64 (Ll x),.int .u64 (C0 x)]
  | _=>.undef
def soft.Split.spec:Entry:=entry [.i .u64] soft.Split.pre soft.Split.out
def soft.Kind.pre:List Atom→Bool
  | [.i x]=>Af x
  | _=>false
def soft.Kind.out:List Atom→DV
  | [.i x]=>.int .i64 (Bd x)
  | _=>.undef
def soft.Kind.spec:Entry:=entry [.i .u64] soft.Kind.pre soft.Kind.out
def soft.Sign.pre:List Atom→Bool
  | [.i x]=>Af x
  | _=>false
def soft.Sign.out:List Atom→DV
  | [.i x]=>.bool (Dp x)
  | _=>.undef
def soft.Sign.spec:Entry:=entry [.i .u64] soft.Sign.pre soft.Sign.out
def soft.Finite.pre:List Atom→Bool
  | [.i x]=>Af x
  | _=>false
def soft.Finite.out:List Atom→DV
  | [.i x]=>.bool (Cq x)
  | _=>.undef
def soft.Finite.spec:Entry:=entry [.i .u64] soft.Finite.pre soft.Finite.out
def soft.Dk.pre:List Atom→Bool
  | [.i x]=>Af x
  | _=>false
def soft.Dk.out:List Atom→DV
  | [.i x]=>.int .u64 (C5 x)
  | _=>.undef
def soft.Dk.spec:Entry:=entry [.i .u64] soft.Dk.pre soft.Dk.out
def soft.F7.pre:List Atom→Bool
  | [.i x]=>Af x
  | _=>false
def soft.F7.out:List Atom→DV
  | [.i x]=>.tup [.int .u64 (Bt x),.int .i64 (Bh x)]
  | _=>.undef
def soft.F7.spec:Entry:=entry [.i .u64] soft.F7.pre soft.F7.out
def soft.Pack.mu:List Atom→Nat
  | [.b _n,.i m,.i e]=>Pa m e
  | _=>0
def soft.Pack.pre:List Atom→Bool
  | [.b _n,.i m,.i e]=>Ky m e
  | _=>false
def soft.Pack.out:List Atom→DV
  | [.b n,.i m,.i e]=>.int .u64 (T1 n m e)
  | _=>.undef
def soft.Pack.spec:Entry:=entry [.b,.i .u64,.i .i64] soft.Pack.pre soft.Pack.out
def soft.Dd.pre:List Atom→Bool
  | [.b _n,.i m,.i e,.b r]=>Ec m e r
  | _=>false
def soft.Dd.out:List Atom→DV
  | [.b n,.i m,.i e,.b r]=>.tup [.int .u64 (E1 n m e r),.int .u8 (E0 n m e r)]
  | _=>.undef
def soft.Dd.spec:Entry:=entry [.b,.i .u64,.i .i64,.b] soft.Dd.pre soft.Dd.out
def sum.right.pre:List Atom→Bool
  | [.i m,.i d]=>Af m&&Cu (0≤d∧d<1000000)
  | _=>false
def sum.right.out:List Atom→DV
  | [.i m,.i d]=>.int .u64 (Fb m d)
  | _=>.undef
def sum.right.spec:Entry:=entry [.i .u64,.i .i64] sum.right.pre sum.right.out
def sum.Eo.pre:List Atom→Bool
  | [.i a,.i b]=>(Af a&&Af b)&&(!(Cq a)||!(Cq b))
  | _=>false
def sum.Eo.out:List Atom→DV
  | [.i a,.i b]=>.tup [.int .u64 (Jq a b),.int .u8 (Wi a b)]
  | _=>.undef
def sum.Eo.spec:Entry:=entry [.i .u64,.i .u64] sum.Eo.pre sum.Eo.out
def sum.Add.pre:List Atom→Bool
  | [.i a,.i b]=>Af a&&Af b
  | _=>false
def sum.Add.out:List Atom→DV
  | [.i a,.i b]=>.tup [.int .u64 (Jq a b),.int .u8 (Wi a b)]
  | _=>.undef
def sum.Add.spec:Entry:=entry [.i .u64,.i .u64] sum.Add.pre sum.Add.out
def sum.Sub.pre:List Atom→Bool
  | [.i a,.i b]=>Af a&&Af b
  | _=>false
def sum.Sub.out:List Atom→DV
  | [.i a,.i b]=>.tup [.int .u64 (Eu a b),.int .u8 (Ava a b)]
  | _=>.undef
def sum.Sub.spec:Entry:=entry [.i .u64,.i .u64] sum.Sub.pre sum.Sub.out
def A1.Neg.pre:List Atom→Bool
  | [.i x]=>Af x
  | _=>false
def A1.Neg.out:List Atom→DV
  | [.i x]=>.bool (Dp x)
  | _=>.undef
def A1.Neg.spec:Entry:=entry [.i .u64] A1.Neg.pre A1.Neg.out
def A1.Power.pre:List Atom→Bool
  | [.i x]=>Kl x
  | _=>false
def A1.Power.out:List Atom→DV
  | [.i x]=>.int .i64 (Ll x)
  | _=>.undef
def A1.Power.spec:Entry:=entry [.i .u64] A1.Power.pre A1.Power.out
def A1.Li.pre:List Atom→Bool
  | [.i x]=>Kl x
  | _=>false
def A1.Li.out:List Atom→DV
  | [.i x]=>.int .u64 (C0 x)
  | _=>.undef
def A1.Li.spec:Entry:=entry [.i .u64] A1.Li.pre A1.Li.out
def A1.Kind.pre:List Atom→Bool
  | [.i x]=>Kl x
  | _=>false
def A1.Kind.out:List Atom→DV
  | [.i x]=>.int .i64 (Bd x)
  | _=>.undef
def A1.Kind.spec:Entry:=entry [.i .u64] A1.Kind.pre A1.Kind.out
def A1.Finite.pre:List Atom→Bool
  | [.i x]=>Af x
  | _=>false
def A1.Finite.out:List Atom→DV
  | [.i x]=>.bool (Cq x)
  | _=>.undef
def A1.Finite.spec:Entry:=entry [.i .u64] A1.Finite.pre A1.Finite.out
def A1.Dk.pre:List Atom→Bool
  | [.i x]=>Af x
  | _=>false
def A1.Dk.out:List Atom→DV
  | [.i x]=>.int .u64 (C5 x)
  | _=>.undef
def A1.Dk.spec:Entry:=entry [.i .u64] A1.Dk.pre A1.Dk.out
def Ey.Canon.pre:List Atom→Bool
  | [.i x]=>Kl x
  | _=>false
def Ey.Canon.out:List Atom→DV
  | [.i x]=>.int .u64 (Zi x)
  | _=>.undef
def Ey.Canon.spec:Entry:=entry [.i .u64] Ey.Canon.pre Ey.Canon.out
def Cz.B3.pre:List Atom→Bool
  | [.i x]=>Af x
  | _=>false
def Cz.B3.out:List Atom→DV
  | [.i x]=>.int .i64 (64-E2 x)
  | _=>.undef
def Cz.B3.spec:Entry:=entry [.i .u64] Cz.B3.pre Cz.B3.out
def Cz.Ia.pre:List Atom→Bool
  | [.i x,.i y]=>Af x&&Af y
  | _=>false
def Cz.Ia.out:List Atom→DV
  | [.i x,.i y]=>.tup [.int .u64 (Sb x y),.int .u64 (Nj x y)]
  | _=>.undef
def Cz.Ia.spec:Entry:=entry [.i .u64,.i .u64] Cz.Ia.pre Cz.Ia.out
def times.signed.pre:List Atom→Bool
  | [.i b,.b _n]=>Af b
  | _=>false
def times.signed.out:List Atom→DV
  | [.i b,.b n]=>.int .u64 (R8 n b)
  | _=>.undef
def times.signed.spec:Entry:=entry [.i .u64,.b] times.signed.pre times.signed.out
def times.nan.pre:List Atom→Bool
  | [.i a,.i b]=>Af a&&Af b
  | _=>false
def times.nan.out:List Atom→DV
  | [.i a,.i b]=>.bool (Anc a b)
  | _=>.undef
def times.nan.spec:Entry:=entry [.i .u64,.i .u64] times.nan.pre times.nan.out
def times.norm.pre:List Atom→Bool
  | [.i b]=>Af b&&L5 b
  | _=>false
def times.norm.out:List Atom→DV
  | [.i b]=>.tup [.int .u64 (C1 b),.int .i64 (Hb b)]
  | _=>.undef
def times.norm.spec:Entry:=entry [.i .u64] times.norm.pre times.norm.out
def times.wide.pre:List Atom→Bool
  | [.b _n,.i m,.i e,.b _r]=>O2 m e
  | _=>false
def times.wide.out:List Atom→DV
  | [.b n,.i m,.i e,.b r]=>.tup [.int .u64 (E1 n m e r),.int .u8 (E0 n m e r)]
  | _=>.undef
def times.wide.spec:Entry:=entry [.b,.i .u64,.i .i64,.b] times.wide.pre times.wide.out
def times.Mul.pre:List Atom→Bool
  | [.i a,.i b]=>Af a&&Af b
  | _=>false
def times.Mul.out:List Atom→DV
  | [.i a,.i b]=>.tup [.int .u64 (D1 a b),.int .u8 (Avg a b)]
  | _=>.undef
def times.Mul.spec:Entry:=entry [.i .u64,.i .u64] times.Mul.pre times.Mul.out
def times.Div.pre:List Atom→Bool
  | [.i a,.i b]=>Af a&&Af b
  | _=>false
def times.Div.out:List Atom→DV
  | [.i a,.i b]=>.tup [.int .u64 (Fa a b),.int .u8 (Avm a b)]
  | _=>.undef
def times.Div.spec:Entry:=entry [.i .u64,.i .u64] times.Div.pre times.Div.out
def Ae.Add.pre:List Atom→Bool
  | [.i a,.i b]=>Af a&&Af b
  | _=>false
def Ae.Add.out:List Atom→DV
  | [.i a,.i b]=>.int .u64 (Jq a b)
  | _=>.undef
def Ae.Add.spec:Entry:=entry [.i .u64,.i .u64] Ae.Add.pre Ae.Add.out
def Ae.Sub.pre:List Atom→Bool
  | [.i a,.i b]=>Af a&&Af b
  | _=>false
def Ae.Sub.out:List Atom→DV
  | [.i a,.i b]=>.int .u64 (Eu a b)
  | _=>.undef
def Ae.Sub.spec:Entry:=entry [.i .u64,.i .u64] Ae.Sub.pre Ae.Sub.out
def Ae.Mul.pre:List Atom→Bool
  | [.i a,.i b]=>Af a&&Af b
  | _=>false
def Ae.Mul.out:List Atom→DV
  | [.i a,.i b]=>.int .u64 (D1 a b)
  | _=>.undef
def Ae.Mul.spec:Entry:=entry [.i .u64,.i .u64] Ae.Mul.pre Ae.Mul.out
def Ae.fit.pre:List Atom→Bool
  | [.l _x,.l _y]=>true
  | _=>false
def Ae.fit.out:List Atom→DV
  | [.l x,.l y]=>.bool (Ow x y)
  | _=>.undef
def Ae.fit.spec:Entry:=entry [.s .u64,.s .u64] Ae.fit.pre Ae.fit.out
def Ae.Hz.pre:List Atom→Bool
  | [.l x,.l y]=>(Ow x y&&Ai x)&&Ai y
  | _=>false
def Ae.Hz.out:List Atom→DV
  | [.l x,.l y]=>.tup [.int .u64 (I9 x y),.int .i64 (0:Int)]
  | _=>.undef
def Ae.Hz.spec:Entry:=entry [.s .u64,.s .u64] Ae.Hz.pre Ae.Hz.out
def Ag.F.pre:List Atom→Bool
  | [.i x]=>Af x
  | _=>false
def Ag.F.out:List Atom→DV
  | [.i x]=>.fl (Int.toNat x)
  | _=>.undef
def Ag.F.spec:Entry:=entry [.i .u64] Ag.F.pre Ag.F.out
def Ag.B.pre:List Atom→Bool
  | [.f _x]=>true
  | _=>false
def Ag.B.out:List Atom→DV
  | [.f x]=>.int .u64 (Ft x)
  | _=>.undef
def Ag.B.spec:Entry:=entry [.fl] Ag.B.pre Ag.B.out
def Ag.Add.pre:List Atom→Bool
  | [.i a,.i b]=>Af a&&Af b
  | _=>false
def Ag.Add.out:List Atom→DV
  | [.i a,.i b]=>.int .u64 (Jq a b)
  | _=>.undef
def Ag.Add.spec:Entry:=entry [.i .u64,.i .u64] Ag.Add.pre Ag.Add.out
def Ag.Sub.pre:List Atom→Bool
  | [.i a,.i b]=>Af a&&Af b
  | _=>false
def Ag.Sub.out:List Atom→DV
  | [.i a,.i b]=>.int .u64 (Eu a b)
  | _=>.undef
def Ag.Sub.spec:Entry:=entry [.i .u64,.i .u64] Ag.Sub.pre Ag.Sub.out
def Ag.Mul.pre:List Atom→Bool
  | [.i a,.i b]=>Af a&&Af b
  | _=>false
def Ag.Mul.out:List Atom→DV
  | [.i a,.i b]=>.int .u64 (D1 a b)
  | _=>.undef
def Ag.Mul.spec:Entry:=entry [.i .u64,.i .u64] Ag.Mul.pre Ag.Mul.out
def Ag.Hz.pre:List Atom→Bool
  | [.l x,.l y]=>(Ow x y&&Ai x)&&Ai y
  | _=>false
def Ag.Hz.out:List Atom→DV
  | [.l x,.l y]=>.int .u64 (I9 x y)
  | _=>.undef
def Ag.Hz.spec:Entry:=entry [.s .u64,.s .u64] Ag.Hz.pre Ag.Hz.out
def Ag.Ev.pre:List Atom→Bool
  | [.l x,.l _y]=>Mt x
  | _=>false
def Ag.Ev.out:List Atom→DV
  | [.l x,.l y]=>.bool (Tu x y)
  | _=>.undef
def Ag.Ev.spec:Entry:=entry [.s .u64,.s .u64] Ag.Ev.pre Ag.Ev.out
def Aa.size.pre:List Atom→Bool
  | [.i _n]=>true
  | _=>false
def Aa.size.out:List Atom→DV
  | [.i n]=>.bool (Bg n)
  | _=>.undef
def Aa.size.spec:Entry:=entry [.i .i64] Aa.size.pre Aa.size.out
def Aa.Check.pre:List Atom→Bool
  | [.i _r,.i _c,.l _l]=>true
  | _=>false
def Aa.Check.out:List Atom→DV
  | [.i r,.i c,.l l]=>.int .i64 (Ks r c l)
  | _=>.undef
def Aa.Check.spec:Entry:=entry [.st [.i .i64,.i .i64,.s .u64]] Aa.Check.pre Aa.Check.out
def Aa.get.pre:List Atom→Bool
  | [.i r,.i c,.l l,.i i,.i k]=>Cw r c l i k
  | _=>false
def Aa.get.out:List Atom→DV
  | [.i _r,.i c,.l l,.i i,.i k]=>.int .u64 (D6 c l i k)
  | _=>.undef
def Aa.get.spec:Entry:=entry [.st [.i .i64,.i .i64,.s .u64],.i .i64,.i .i64] Aa.get.pre Aa.get.out
def Aa.two.pre:List Atom→Bool
  | [.i _r,.i _c,.l _l,.i _p,.i _q,.l _m]=>true
  | _=>false
def Aa.two.out:List Atom→DV
  | [.i r,.i c,.l l,.i p,.i q,.l m]=>.int .i64 (Xh r c l p q m)
  | _=>.undef
def Aa.two.spec:Entry:=entry [.st [.i .i64,.i .i64,.s .u64],.st [.i .i64,.i .i64,.s .u64]] Aa.two.pre Aa.two.out
def Aa.Row.pre:List Atom→Bool
  | [.i r,.i c,.l l,.i i,.i f]=>O8 r c l i&&decide (f=0)
  | _=>false
def Aa.Row.out:List Atom→DV
  | [.i _r,.i c,.l l,.i i,.i _f]=>.ints .fresh .u64 (G8 c l i)
  | _=>.undef
def Aa.Row.spec:Entry:=entry [.st [.i .i64,.i .i64,.s .u64],.i .i64,.i .i64] Aa.Row.pre Aa.Row.out
def Aa.Dz.pre:List Atom→Bool
  | [.i r,.i c,.l l,.i k,.i f]=>G4 r c l k&&Cu (0≤f∧f≤r)
  | _=>false
def Aa.Dz.out:List Atom→DV
  | [.i r,.i c,.l l,.i k,.i f]=>.ints .fresh .u64 (Cp c l k f (Int.toNat (r-f)))
  | _=>.undef
def Aa.Dz.spec:Entry:=entry [.st [.i .i64,.i .i64,.s .u64],.i .i64,.i .i64] Aa.Dz.pre Aa.Dz.out
def Aa.Ed.pre:List Atom→Bool
  | [.i _i,.i _k]=>true
  | _=>false
def Aa.Ed.out:List Atom→DV
  | [.i _i,.i _k]=>.int .u64 (0:Int)
  | _=>.undef
def Aa.Ed.spec:Entry:=entry [.i .i64,.i .i64] Aa.Ed.pre Aa.Ed.out
def Aa.Ie.pre:List Atom→Bool
  | [.i _i,.i _k]=>true
  | _=>false
def Aa.Ie.out:List Atom→DV
  | [.i i,.i k]=>.int .u64 (Nc i k)
  | _=>.undef
def Aa.Ie.spec:Entry:=entry [.i .i64,.i .i64] Aa.Ie.pre Aa.Ie.out
def Aa.Fv.pre:List Atom→Bool
  | [.i i,.i k,.i r,.i c,.l l]=>Cw r c l k i
  | _=>false
def Aa.Fv.out:List Atom→DV
  | [.i i,.i k,.i _r,.i c,.l l]=>.int .u64 (D6 c l k i)
  | _=>.undef
def Aa.Fv.spec:Entry:=entry [.i .i64,.i .i64,.cp [.i .i64,.i .i64,.s .u64]] Aa.Fv.pre Aa.Fv.out
def Aa.Fx.pre:List Atom→Bool
  | [.i i,.i k,.i r,.i c,.l l,.i x,.i y]=>Cw r c l (x+i) (y+k)&&U6 x y i k
  | _=>false
def Aa.Fx.out:List Atom→DV
  | [.i i,.i k,.i _r,.i c,.l l,.i x,.i y]=>.int .u64 (D6 c l (x+i) (y+k))
  | _=>.undef
def Aa.Fx.spec:Entry:=entry [.i .i64,.i .i64,.cp [.i .i64,.i .i64,.s .u64],.cp [.i .i64],.cp [.i .i64]] Aa.Fx.pre Aa.Fx.out
def Aa.Axr.pre:List Atom→Bool
  | [.i i,.i k,.i r,.i c,.l l,.i p,.i q,.l m]=>((Cw r c l i k&&Cw p q m i k)&&Ai l)&&Ai m
  | _=>false
def Aa.Es.pre:List Atom→Bool
  | [.i i,.i k,.i r,.i c,.l l,.i p,.i q,.l m]=>Mo r c l p q m i k
  | _=>false
def Aa.Es.out:List Atom→DV
  | [.i i,.i k,.i r,.i c,.l l,.i _p,.i q,.l m]=>.int .u64 (I4 r c l q m i k)
  | _=>.undef
def Aa.Es.spec:Entry:=entry [.i .i64,.i .i64,.cp [.i .i64,.i .i64,.s .u64],.cp [.i .i64,.i .i64,.s .u64]] Aa.Es.pre Aa.Es.out
def Aa.H9.pre:List Atom→Bool
  | [.i i,.i k,.i r,.i c,.l l,.i p,.i q,.l m]=>Sr r c l p q m i k
  | _=>false
def Aa.H9.out:List Atom→DV
  | [.i i,.i k,.i _r,.i c,.l l,.i p,.i q,.l m]=>.int .u64 (I9 (G8 c l i) (Kd p q m k))
  | _=>.undef
def Aa.H9.spec:Entry:=entry [.i .i64,.i .i64,.cp [.i .i64,.i .i64,.s .u64],.cp [.i .i64,.i .i64,.s .u64]] Aa.H9.pre Aa.H9.out
def Aa.of.Bf.pre:List Atom→Bool
  | [.i a,.i b]=>(Bg a&&Bg b)
  | _=>false
def Aa.of.Bf.out:List Atom→DV
  | [.i a,.i b]=>.agg [.int .i64 a,.int .i64 b,.ints .fresh .u64 (B5 (Int.toNat a) (Int.toNat b) (fun _ _=>0))]
  | _=>.undef
def Aa.of.Bf.spec:Entry:=entry [.i .i64,.i .i64,.fn 205 []] Aa.of.Bf.pre Aa.of.Bf.out
def Aa.of.Ew.pre:List Atom→Bool
  | [.i a,.i b]=>(Bg a&&Bg b)
  | _=>false
def Aa.of.Ew.out:List Atom→DV
  | [.i a,.i b]=>.agg [.int .i64 a,.int .i64 b,.ints .fresh .u64 (B5 (Int.toNat a) (Int.toNat b) (fun j1 j2=>Nc j1 j2))]
  | _=>.undef
def Aa.of.Ew.spec:Entry:=entry [.i .i64,.i .i64,.fn 246 []] Aa.of.Ew.pre Aa.of.Ew.out
def Aa.of.Cn.pre:List Atom→Bool
  | [.i a,.i b,.i r,.i c,.l l]=>(Bg a&&Bg b)&&A0 r c l&&decide (a=c∧b=r)
  | _=>false
def Aa.of.Cn.out:List Atom→DV
  | [.i a,.i b,.i _r,.i c,.l l]=>.agg [.int .i64 a,.int .i64 b,.ints .fresh .u64 (B5 (Int.toNat a) (Int.toNat b) (fun j1 j2=>D6 c l j2 j1))]
  | _=>.undef
def Aa.of.Cn.spec:Entry:=entry [.i .i64,.i .i64,.fn 220 [.cp [.i .i64,.i .i64,.s .u64]]] Aa.of.Cn.pre Aa.of.Cn.out
def Aa.of.Part.pre:List Atom→Bool
  | [.i a,.i b,.i r,.i c,.l l,.i x,.i y]=>(Bg a&&Bg b)&&A0 r c l&&Hs r c x y a b
  | _=>false
def Aa.of.Part.out:List Atom→DV
  | [.i a,.i b,.i _r,.i c,.l l,.i x,.i y]=>.agg [.int .i64 a,.int .i64 b,.ints .fresh .u64 (B5 (Int.toNat a) (Int.toNat b) (fun j1 j2=>D6 c l (x+j1) (y+j2)))]
  | _=>.undef
def Aa.of.Part.spec:Entry:=entry [.i .i64,.i .i64,.fn 192 [.cp [.i .i64,.i .i64,.s .u64],.cp [.i .i64],.cp [.i .i64]]] Aa.of.Part.pre Aa.of.Part.out
def Aa.of.Stack.pre:List Atom→Bool
  | [.i a,.i b,.i r,.i c,.l l,.i p,.i q,.l m]=>(Bg a&&Bg b)&&(A0 r c l&&A0 p q m)&&decide (a=r+p∧b=c∧q=c)
  | _=>false
def Aa.of.Stack.out:List Atom→DV
  | [.i a,.i b,.i r,.i c,.l l,.i _p,.i q,.l m]=>.agg [.int .i64 a,.int .i64 b,.ints .fresh .u64 (B5 (Int.toNat a) (Int.toNat b) (fun j1 j2=>I4 r c l q m j1 j2))]
  | _=>.undef
def Aa.of.Stack.spec:Entry:=entry [.i .i64,.i .i64,.fn 195 [.cp [.i .i64,.i .i64,.s .u64],.cp [.i .i64,.i .i64,.s .u64]]] Aa.of.Stack.pre Aa.of.Stack.out
def Aa.of.Mul.pre:List Atom→Bool
  | [.i a,.i b,.i r,.i c,.l l,.i p,.i q,.l m]=>(Bg a&&Bg b)&&((A0 r c l&&A0 p q m)&&(Ai l&&Ai m))&&decide (a=r∧b=q∧c=p)
  | _=>false
def Aa.of.Mul.out:List Atom→DV
  | [.i a,.i b,.i _r,.i c,.l l,.i p,.i q,.l m]=>.agg [.int .i64 a,.int .i64 b,.ints .fresh .u64 (B5 (Int.toNat a) (Int.toNat b) (fun j1 j2=>I9 (G8 c l j1) (Kd p q m j2)))]
  | _=>.undef
def Aa.of.Mul.spec:Entry:=entry [.i .i64,.i .i64,.fn 188 [.cp [.i .i64,.i .i64,.s .u64],.cp [.i .i64,.i .i64,.s .u64]]] Aa.of.Mul.pre Aa.of.Mul.out
def Aa.Bf.pre:List Atom→Bool
  | [.i _a,.i _b]=>true
  | _=>false
def Aa.Bf.out:List Atom→DV
  | [.i a,.i b]=>.tup [.agg [.int .i64 ((Cx a b).1),.int .i64 ((Cx a b).2.1),.ints .fresh .u64 ((Cx a b).2.2.1)],.int .i64 ((Cx a b).2.2.2)]
  | _=>.undef
def Aa.Bf.spec:Entry:=entry [.i .i64,.i .i64] Aa.Bf.pre Aa.Bf.out
def Aa.Ew.pre:List Atom→Bool
  | [.i _n]=>true
  | _=>false
def Aa.Ew.out:List Atom→DV
  | [.i n]=>.tup [.agg [.int .i64 ((Mw n).1),.int .i64 ((Mw n).2.1),.ints .fresh .u64 ((Mw n).2.2.1)],.int .i64 ((Mw n).2.2.2)]
  | _=>.undef
def Aa.Ew.spec:Entry:=entry [.i .i64] Aa.Ew.pre Aa.Ew.out
def Aa.Cn.pre:List Atom→Bool
  | [.i _r,.i _c,.l _l]=>true
  | _=>false
def Aa.Cn.out:List Atom→DV
  | [.i r,.i c,.l l]=>.tup [.agg [.int .i64 ((Fm r c l).1),.int .i64 ((Fm r c l).2.1),.ints .fresh .u64 ((Fm r c l).2.2.1)],.int .i64 ((Fm r c l).2.2.2)]
  | _=>.undef
def Aa.Cn.spec:Entry:=entry [.st [.i .i64,.i .i64,.s .u64]] Aa.Cn.pre Aa.Cn.out
def Aa.Part.pre:List Atom→Bool
  | [.i _r,.i _c,.l _l,.i _x,.i _y,.i _a,.i _b]=>true
  | _=>false
def Aa.Part.out:List Atom→DV
  | [.i r,.i c,.l l,.i x,.i y,.i a,.i b]=>.tup [.agg [.int .i64 ((Im r c l x y a b).1),.int .i64 ((Im r c l x y a b).2.1),.ints .fresh .u64 ((Im r c l x y a b).2.2.1)],.int .i64 ((Im r c l x y a b).2.2.2)]
  | _=>.undef
def Aa.Part.spec:Entry:=entry [.st [.i .i64,.i .i64,.s .u64],.i .i64,.i .i64,.i .i64,.i .i64] Aa.Part.pre Aa.Part.out
def Aa.Stack.pre:List Atom→Bool
  | [.i _r,.i _c,.l _l,.i _p,.i _q,.l _m]=>true
  | _=>false
def Aa.Stack.out:List Atom→DV
  | [.i r,.i c,.l l,.i p,.i q,.l m]=>.tup [.agg [.int .i64 ((Dw r c l p q m).1),.int .i64 ((Dw r c l p q m).2.1),.ints .fresh .u64 ((Dw r c l p q m).2.2.1)],.int .i64 ((Dw r c l p q m).2.2.2)]
  | _=>.undef
def Aa.Stack.spec:Entry:=entry [.st [.i .i64,.i .i64,.s .u64],.st [.i .i64,.i .i64,.s .u64]] Aa.Stack.pre Aa.Stack.out
def Aa.Mul.pre:List Atom→Bool
  | [.i _r,.i _c,.l l,.i _p,.i _q,.l m]=>Ai l&&Ai m
  | _=>false
def Aa.Mul.out:List Atom→DV
  | [.i r,.i c,.l l,.i p,.i q,.l m]=>.tup [.agg [.int .i64 ((R3 r c l p q m).1),.int .i64 ((R3 r c l p q m).2.1),.ints .fresh .u64 ((R3 r c l p q m).2.2.1)],.int .i64 ((R3 r c l p q m).2.2.2)]
  | _=>.undef
def Aa.Mul.spec:Entry:=entry [.st [.i .i64,.i .i64,.s .u64],.st [.i .i64,.i .i64,.s .u64]] Aa.Mul.pre Aa.Mul.out
def Aj.H8.pre:List Atom→Bool
  | [.i _r,.i _c,.l _l]=>true
  | _=>false
def Aj.H8.out:List Atom→DV
  | [.i r,.i c,.l l]=>.bool (A0 r c l)
  | _=>.undef
def Aj.H8.spec:Entry:=entry [.st [.i .i64,.i .i64,.s .u64]] Aj.H8.pre Aj.H8.out
def Aj.At.pre:List Atom→Bool
  | [.i r,.i c,.l l,.i i,.i k]=>Cw r c l i k
  | _=>false
def Aj.At.out:List Atom→DV
  | [.i _r,.i c,.l l,.i i,.i k]=>.int .u64 (D6 c l i k)
  | _=>.undef
def Aj.At.spec:Entry:=entry [.st [.i .i64,.i .i64,.s .u64],.i .i64,.i .i64] Aj.At.pre Aj.At.out
def Aj.Bf.pre:List Atom→Bool
  | [.i a,.i b]=>Bg a&&Bg b
  | _=>false
def Aj.Bf.out:List Atom→DV
  | [.i a,.i b]=>.agg [.int .i64 a,.int .i64 b,.ints .fresh .u64 (B5 (Int.toNat a) (Int.toNat b) (fun _ _=>0))]
  | _=>.undef
def Aj.Bf.spec:Entry:=entry [.i .i64,.i .i64] Aj.Bf.pre Aj.Bf.out
def Aj.F8.pre:List Atom→Bool
  | [.i r,.i c,.l l,.i i,.i k,.i _b]=>Cw r c l i k
  | _=>false
def Aj.F8.out:List Atom→DV
  | [.i r,.i c,.l l,.i i,.i k,.i b]=>.agg [.int .i64 r,.int .i64 c,.ints .fresh .u64 (List.set l (Int.toNat (i*c+k)) b)]
  | _=>.undef
def Aj.F8.spec:Entry:=entry [.st [.i .i64,.i .i64,.s .u64],.i .i64,.i .i64,.i .u64] Aj.F8.pre Aj.F8.out
def Aj.Ew.pre:List Atom→Bool
  | [.i n]=>Bg n
  | _=>false
def Aj.Ew.out:List Atom→DV
  | [.i n]=>.agg [.int .i64 n,.int .i64 n,.ints .fresh .u64 (B5 (Int.toNat n) (Int.toNat n) (fun j1 j2=>Nc j1 j2))]
  | _=>.undef
def Aj.Ew.spec:Entry:=entry [.i .i64] Aj.Ew.pre Aj.Ew.out
def Aj.Ev.pre:List Atom→Bool
  | [.i _r,.i _c,.l l,.i _p,.i _q,.l _m]=>Mt l
  | _=>false
def Aj.Ev.out:List Atom→DV
  | [.i r,.i c,.l l,.i p,.i q,.l m]=>.bool (V3 r c l p q m)
  | _=>.undef
def Aj.Ev.spec:Entry:=entry [.st [.i .i64,.i .i64,.s .u64],.st [.i .i64,.i .i64,.s .u64]] Aj.Ev.pre Aj.Ev.out
def Aj.Row.pre:List Atom→Bool
  | [.i r,.i c,.l l,.i i]=>O8 r c l i
  | _=>false
def Aj.Row.out:List Atom→DV
  | [.i _r,.i c,.l l,.i i]=>.ints .arg .u64 (G8 c l i)
  | _=>.undef
def Aj.Row.spec:Entry:=entry [.st [.i .i64,.i .i64,.s .u64],.i .i64] Aj.Row.pre Aj.Row.out
def Aj.Pz.pre:List Atom→Bool
  | [.i r,.i c,.l l,.i k,.i f]=>G4 r c l k&&Cu (0≤f∧f≤r)
  | _=>false
def Aj.Pz.out:List Atom→DV
  | [.i r,.i c,.l l,.i k,.i f]=>.ints .fresh .u64 (Cp c l k f (Int.toNat (r-f)))
  | _=>.undef
def Aj.Pz.spec:Entry:=entry [.st [.i .i64,.i .i64,.s .u64],.i .i64,.i .i64] Aj.Pz.pre Aj.Pz.out
def Aj.Mul.pre:List Atom→Bool
  | [.i r,.i c,.l l,.i p,.i q,.l m]=>(A0 r c l&&A0 p q m)&&((Ai l&&Ai m)&&decide (c=p))
  | _=>false
def Aj.Mul.out:List Atom→DV
  | [.i r,.i c,.l l,.i p,.i q,.l m]=>.agg [.int .i64 r,.int .i64 q,.ints .fresh .u64 (B5 (Int.toNat r) (Int.toNat q) (fun j1 j2=>I9 (G8 c l j1) (Kd p q m j2)))]
  | _=>.undef
def Aj.Mul.spec:Entry:=entry [.st [.i .i64,.i .i64,.s .u64],.st [.i .i64,.i .i64,.s .u64]] Aj.Mul.pre Aj.Mul.out
def Aj.Cn.pre:List Atom→Bool
  | [.i r,.i c,.l l]=>A0 r c l
  | _=>false
def Aj.Cn.out:List Atom→DV
  | [.i r,.i c,.l l]=>.agg [.int .i64 c,.int .i64 r,.ints .fresh .u64 (B5 (Int.toNat c) (Int.toNat r) (fun j1 j2=>D6 c l j2 j1))]
  | _=>.undef
def Aj.Cn.spec:Entry:=entry [.st [.i .i64,.i .i64,.s .u64]] Aj.Cn.pre Aj.Cn.out
def Aj.Part.pre:List Atom→Bool
  | [.i r,.i c,.l l,.i x,.i y,.i a,.i b]=>A0 r c l&&Hs r c x y a b
  | _=>false
def Aj.Part.out:List Atom→DV
  | [.i _r,.i c,.l l,.i x,.i y,.i a,.i b]=>.agg [.int .i64 a,.int .i64 b,.ints .fresh .u64 (B5 (Int.toNat a) (Int.toNat b) (fun j1 j2=>D6 c l (x+j1) (y+j2)))]
  | _=>.undef
def Aj.Part.spec:Entry:=entry [.st [.i .i64,.i .i64,.s .u64],.i .i64,.i .i64,.i .i64,.i .i64] Aj.Part.pre Aj.Part.out
def Ah.Jr.pre:List Atom→Bool
  | [.l l,.i _i]=>Hp l
  | _=>false
def Ah.Jr.out:List Atom→DV
  | [.l l,.i i]=>.int .u64 (G2 l i)
  | _=>.undef
def Ah.Jr.spec:Entry:=entry [.s .u32,.i .i64] Ah.Jr.pre Ah.Jr.out
def Ah.Made.pre:List Atom→Bool
  | [.b _n,.l l]=>Hp l
  | _=>false
def Ah.Made.out:List Atom→DV
  | [.b n,.l l]=>.agg [.bool (Bi (wv n l)),.ints .arg .u32 (Ap (wv n l))]
  | _=>.undef
def Ah.Made.spec:Entry:=entry [.b,.s .u32] Ah.Made.pre Ah.Made.out
def Ah.Of.pre:List Atom→Bool
  | [.i n]=>Aix n
  | _=>false
def Ah.Of.out:List Atom→DV
  | [.i n]=>.agg [.bool (Bi (n)),.ints .arg .u32 (Ap (n))]
  | _=>.undef
def Ah.Of.spec:Entry:=entry [.i .i64] Ah.Of.pre Ah.Of.out
def Ah.Iu.pre:List Atom→Bool
  | [.l a,.l b]=>Hp a&&Hp b
  | _=>false
def Ah.Iu.out:List Atom→DV
  | [.l a,.l b]=>.int .i64 (Vr (Cm a) (Cm b))
  | _=>.undef
def Ah.Iu.spec:Entry:=entry [.s .u32,.s .u32] Ah.Iu.pre Ah.Iu.out
def Ah.plus.pre:List Atom→Bool
  | [.l a,.l b]=>Hp a&&Hp b
  | _=>false
def Ah.plus.out:List Atom→DV
  | [.l a,.l b]=>.ints .arg .u32 (J0 a b)
  | _=>.undef
def Ah.plus.spec:Entry:=entry [.s .u32,.s .u32] Ah.plus.pre Ah.plus.out
def Ah.minus.pre:List Atom→Bool
  | [.l a,.l b]=>(Hp a&&Hp b)&&leL b a
  | _=>false
def Ah.minus.out:List Atom→DV
  | [.l a,.l b]=>.ints .arg .u32 (Hg a b)
  | _=>.undef
def Ah.minus.spec:Entry:=entry [.s .u32,.s .u32] Ah.minus.pre Ah.minus.out
def Ah.Add.pre:List Atom→Bool
  | [.b n,.l a,.b m,.l b]=>Jf n a&&Jf m b
  | _=>false
def Ah.Add.out:List Atom→DV
  | [.b n,.l a,.b m,.l b]=>.agg [.bool (Bi (wv n a+wv m b)),.ints .arg .u32 (Ap (wv n a+wv m b))]
  | _=>.undef
def Ah.Add.spec:Entry:=entry [.st [.b,.s .u32],.st [.b,.s .u32]] Ah.Add.pre Ah.Add.out
def Ah.Neg.pre:List Atom→Bool
  | [.b n,.l a]=>Jf n a
  | _=>false
def Ah.Neg.out:List Atom→DV
  | [.b n,.l a]=>.agg [.bool (Bi (- wv n a)),.ints .arg .u32 (Ap (- wv n a))]
  | _=>.undef
def Ah.Neg.spec:Entry:=entry [.st [.b,.s .u32]] Ah.Neg.pre Ah.Neg.out
def Ah.F2.pre:List Atom→Bool
  | [.b n,.l a]=>Jf n a
  | _=>false
def Ah.F2.out:List Atom→DV
  | [.b n,.l a]=>.agg [.bool (Bi (2*wv n a)),.ints .arg .u32 (Ap (2*wv n a))]
  | _=>.undef
def Ah.F2.spec:Entry:=entry [.st [.b,.s .u32]] Ah.F2.pre Ah.F2.out
def Ah.Hy.pre:List Atom→Bool
  | [.b n,.l a]=>Jf n a
  | _=>false
def Ah.Hy.out:List Atom→DV
  | [.b n,.l a]=>.agg [.bool (Bi (Kv (wv n a) 1)),.ints .arg .u32 (Ap (Kv (wv n a) 1))]
  | _=>.undef
def Ah.Hy.spec:Entry:=entry [.st [.b,.s .u32]] Ah.Hy.pre Ah.Hy.out
def Ah.Br.pre:List Atom→Bool
  | [.b n,.l a,.i k]=>W2 n a&&As4 k
  | _=>false
def Ah.Br.out:List Atom→DV
  | [.b n,.l a,.i k]=>.agg [.bool (Bi (Gu (wv n a) k)),.ints .arg .u32 (Ap (Gu (wv n a) k))]
  | _=>.undef
def Ah.Br.spec:Entry:=entry [.st [.b,.s .u32],.i .i64] Ah.Br.pre Ah.Br.out
def Ah.Q3.pre:List Atom→Bool
  | [.b n,.l a]=>Jf n a
  | _=>false
def Ah.Q3.out:List Atom→DV
  | [.b n,.l a]=>.int .i64 (Yr (wv n a))
  | _=>.undef
def Ah.Q3.spec:Entry:=entry [.st [.b,.s .u32]] Ah.Q3.pre Ah.Q3.out
def Ah.Xb.pre:List Atom→Bool
  | [.b n,.l a]=>Jf n a
  | _=>false
def Ah.Xb.out:List Atom→DV
  | [.b n,.l a]=>.bool (Akb (wv n a))
  | _=>.undef
def Ah.Xb.spec:Entry:=entry [.st [.b,.s .u32]] Ah.Xb.pre Ah.Xb.out
def Ay.Of.pre:List Atom→Bool
  | [.b n,.l a,.i e]=>Jf n a&&Z0 e
  | _=>false
def Ay.Of.out:List Atom→DV
  | [.b n,.l a,.i e]=>.agg [.bool (Bi (mD (wv n a))),.ints .arg .u32 (Ap (mD (wv n a))),.int .i64 (eD (wv n a) e)]
  | _=>.undef
def Ay.Of.spec:Entry:=entry [.st [.b,.s .u32],.i .i64] Ay.Of.pre Ay.Of.out
def Ay.Neg.pre:List Atom→Bool
  | [.b n,.l a,.i _e]=>Jf n a
  | _=>false
def Ay.Neg.out:List Atom→DV
  | [.b n,.l a,.i e]=>.agg [.bool (Bi (- wv n a)),.ints .arg .u32 (Ap (- wv n a)),.int .i64 e]
  | _=>.undef
def Ay.Neg.spec:Entry:=entry [.st [.b,.s .u32,.i .i64]] Ay.Neg.pre Ay.Neg.out
def Ay.Xc.pre:List Atom→Bool
  | [.b n,.l a,.i _e,.b m,.l b,.i _f]=>Jf n a&&Jf m b
  | _=>false
def Ay.Xc.out:List Atom→DV
  | [.b n,.l a,.i e,.b m,.l b,.i f]=>.int .i64 (C3 (wv n a) e (wv m b) f)
  | _=>.undef
def Ay.Xc.spec:Entry:=entry [.st [.b,.s .u32,.i .i64],.st [.b,.s .u32,.i .i64]] Ay.Xc.pre Ay.Xc.out
def Ay.Level.pre:List Atom→Bool
  | [.b n,.l a,.i e,.i f]=>W2 n a&&Aer (wv n a) e f
  | _=>false
def Ay.Level.out:List Atom→DV
  | [.b n,.l a,.i e,.i f]=>.agg [.bool (Bi (Gu (wv n a) (e-f))),.ints .arg .u32 (Ap (Gu (wv n a) (e-f)))]
  | _=>.undef
def Ay.Level.spec:Entry:=entry [.st [.b,.s .u32,.i .i64],.i .i64] Ay.Level.pre Ay.Level.out
def Ay.Add.pre:List Atom→Bool
  | [.b n,.l a,.i e,.b m,.l b,.i f]=>((W2 n a&&W2 m b)&&Wm e)&&Wm f
  | _=>false
def Ay.Add.out:List Atom→DV
  | [.b n,.l a,.i e,.b m,.l b,.i f]=>.agg [.bool (Bi (Q0 (wv n a) e (wv m b) f)),.ints .arg .u32 (Ap (Q0 (wv n a) e (wv m b) f)),.int .i64 (Apb (wv n a) e (wv m b) f)]
  | _=>.undef
def Ay.Add.spec:Entry:=entry [.st [.b,.s .u32,.i .i64],.st [.b,.s .u32,.i .i64]] Ay.Add.pre Ay.Add.out
def Ay.Sub.pre:List Atom→Bool
  | [.b n,.l a,.i e,.b m,.l b,.i f]=>((W2 n a&&W2 m b)&&Wm e)&&Wm f
  | _=>false
def Ay.Sub.out:List Atom→DV
  | [.b n,.l a,.i e,.b m,.l b,.i f]=>.agg [.bool (Bi (Q0 (wv n a) e (- wv m b) f)),.ints .arg .u32 (Ap (Q0 (wv n a) e (- wv m b) f)),.int .i64 (Apb (wv n a) e (- wv m b) f)]
  | _=>.undef
def Ay.Sub.spec:Entry:=entry [.st [.b,.s .u32,.i .i64],.st [.b,.s .u32,.i .i64]] Ay.Sub.pre Ay.Sub.out
def Ay.Wj.pre:List Atom→Bool
  | [.b n,.l a,.i e]=>Jf n a&&Wm e
  | _=>false
def Ay.Wj.out:List Atom→DV
  | [.b n,.l a,.i e]=>.int .i64 (Ii (wv n a) e)
  | _=>.undef
def Ay.Wj.spec:Entry:=entry [.st [.b,.s .u32,.i .i64]] Ay.Wj.pre Ay.Wj.out
def Ay.Sign.pre:List Atom→Bool
  | [.b n,.l a,.i _e]=>Jf n a
  | _=>false
def Ay.Sign.out:List Atom→DV
  | [.b n,.l a,.i _e]=>.int .i64 (Na (wv n a))
  | _=>.undef
def Ay.Sign.spec:Entry:=entry [.st [.b,.s .u32,.i .i64]] Ay.Sign.pre Ay.Sign.out
def Ay.Compare.pre:List Atom→Bool
  | [.b n,.l a,.i e,.b m,.l b,.i f]=>((W2 n a&&W2 m b)&&Wm e)&&Wm f
  | _=>false
def Ay.Compare.out:List Atom→DV
  | [.b n,.l a,.i e,.b m,.l b,.i f]=>.int .i64 (Wp (wv n a) e (wv m b) f)
  | _=>.undef
def Ay.Compare.spec:Entry:=entry [.st [.b,.s .u32,.i .i64],.st [.b,.s .u32,.i .i64]] Ay.Compare.pre Ay.Compare.out
def A1.Value.pre:List Atom→Bool
  | [.i x]=>Af x
  | _=>false
def A1.Value.out:List Atom→DV
  | [.i x]=>.agg [.bool (Bi (mD (E8 x))),.ints .arg .u32 (Ap (mD (E8 x))),.int .i64 (eD (E8 x) (Bh x))]
  | _=>.undef
def A1.Value.spec:Entry:=entry [.i .u64] A1.Value.pre A1.Value.out
def compare.Lz.pre:List Atom→Bool
  | [.i b]=>Af b
  | _=>false
def compare.Lz.out:List Atom→DV
  | [.i b]=>.int .i64 (Aao b)
  | _=>.undef
def compare.Lz.spec:Entry:=entry [.i .u64] compare.Lz.pre compare.Lz.out
def compare.Order.pre:List Atom→Bool
  | [.i a,.i b]=>Af a&&Af b
  | _=>false
def compare.Order.out:List Atom→DV
  | [.i a,.i b]=>.tup [.int .i64 (Sp a b),.bool (Aat a b)]
  | _=>.undef
def compare.Order.spec:Entry:=entry [.i .u64,.i .u64] compare.Order.pre compare.Order.out
def compare.Md.pre:List Atom→Bool
  | [.i a,.i b]=>Af a&&Af b
  | _=>false
def compare.Md.out:List Atom→DV
  | [.i a,.i b]=>.bool (decide (Sp a b<0))
  | _=>.undef
def compare.Md.spec:Entry:=entry [.i .u64,.i .u64] compare.Md.pre compare.Md.out
def compare.Ho.pre:List Atom→Bool
  | [.i a]=>Af a
  | _=>false
def compare.Ho.out:List Atom→DV
  | [.i a]=>.int .u64 (I7 a)
  | _=>.undef
def compare.Ho.spec:Entry:=entry [.i .u64] compare.Ho.pre compare.Ho.out
def compare.E5.pre:List Atom→Bool
  | [.i a,.i n]=>Db a n
  | _=>false
def compare.E5.out:List Atom→DV
  | [.i a,.i n]=>.tup [.int .u64 (Bw a n),.int .u8 (Ap2 a n)]
  | _=>.undef
def compare.E5.spec:Entry:=entry [.i .u64,.i .i64] compare.E5.pre compare.E5.out
def Ae.Br.pre:List Atom→Bool
  | [.i a,.i n]=>Db a n
  | _=>false
def Ae.Br.out:List Atom→DV
  | [.i a,.i n]=>.int .u64 (Bw a n)
  | _=>.undef
def Ae.Br.spec:Entry:=entry [.i .u64,.i .i64] Ae.Br.pre Ae.Br.out
def Ae.Div.pre:List Atom→Bool
  | [.i a,.i b]=>Af a&&Af b
  | _=>false
def Ae.Div.out:List Atom→DV
  | [.i a,.i b]=>.int .u64 (Fa a b)
  | _=>.undef
def Ae.Div.spec:Entry:=entry [.i .u64,.i .u64] Ae.Div.pre Ae.Div.out
def Ae.Bn.pre:List Atom→Bool
  | [.l x]=>Ck x
  | _=>false
def Ae.Bn.out:List Atom→DV
  | [.l x]=>.int .u64 (Be x)
  | _=>.undef
def Ae.Bn.spec:Entry:=entry [.s .u64] Ae.Bn.pre Ae.Bn.out
def Ae.Finite.pre:List Atom→Bool
  | [.l x]=>Ck x
  | _=>false
def Ae.Finite.out:List Atom→DV
  | [.l x]=>.bool (Da x)
  | _=>.undef
def Ae.Finite.spec:Entry:=entry [.s .u64] Ae.Finite.pre Ae.Finite.out
def Ct.Check.pre:List Atom→Bool
  | [.i _r,.i _c,.l l]=>Ai l
  | _=>false
def Ct.Check.out:List Atom→DV
  | [.i r,.i c,.l l]=>.int .i64 (Cd r c l)
  | _=>.undef
def Ct.Check.spec:Entry:=entry [.st [.i .i64,.i .i64,.s .u64]] Ct.Check.pre Ct.Check.out
def solve.check.pre:List Atom→Bool
  | [.i _r,.i _c,.l l,.i _p,.i _q,.l m]=>Ai l&&Ai m
  | _=>false
def solve.check.out:List Atom→DV
  | [.i r,.i c,.l l,.i p,.i q,.l m]=>.int .i64 (N1 r c l p q m)
  | _=>.undef
def solve.check.spec:Entry:=entry [.st [.i .i64,.i .i64,.s .u64],.st [.i .i64,.i .i64,.s .u64]] solve.check.pre solve.check.out
def Gj.Gi.up.pre:List Atom→Bool
  | [.i n,.i k]=>Cu (0≤k∧k<n∧n≤10)
  | _=>false
def Gj.Gi.up.out:List Atom→DV
  | [.i n,.i k]=>.int .i64 (n-1-k)
  | _=>.undef
def Gj.Gi.up.spec:Entry:=entry [.i .i64,.i .i64] Gj.Gi.up.pre Gj.Gi.up.out
def solve.Ep.pre:List Atom→Bool
  | [.i _i,.i _k]=>true
  | _=>false
def solve.Ep.out:List Atom→DV
  | [.i i,.i k]=>.bool (decide (i<k))
  | _=>.undef
def solve.Ep.spec:Entry:=entry [.i .i64,.i .i64] solve.Ep.pre solve.Ep.out
def Aa.of.Bf.own.pre:List Atom→Bool
  | [.i a,.i b]=>Bg a&&Bg b
  | _=>false
def Aa.of.Bf.own.out:List Atom→DV
  | [.i a,.i b]=>.agg [.int .i64 a,.int .i64 b,.ints (.own 108002 37) .u64 (B5 (Int.toNat a) (Int.toNat b) (fun _ _=>0))]
  | _=>.undef
def Aa.of.Bf.own.spec:Entry:=entry [.i .i64,.i .i64,.fn 205 []] Aa.of.Bf.own.pre Aa.of.Bf.own.out
def Aa.Bf.own.pre:List Atom→Bool
  | [.i a,.i b]=>Bg a&&Bg b
  | _=>false
def Aa.Bf.own.out:List Atom→DV
  | [.i a,.i b]=>.tup [.agg [.int .i64 a,.int .i64 b,.ints (.own 1136 37) .u64 (B5 (Int.toNat a) (Int.toNat b) (fun _ _=>0))],.int .i64 (0:Int)]
  | _=>.undef
def Aa.Bf.own.spec:Entry:=entry [.i .i64,.i .i64] Aa.Bf.own.pre Aa.Bf.own.out
def solve.Bv.Up.pre:List Atom→Bool
  | [.i r,.i c,.l l,.i p,.i q,.l m,.i n]=>Abv r c l p q m&&decide (n=r)
  | _=>false
def solve.Bv.Up.out:List Atom→DV
  | [.i r,.i c,.l l,.i _p,.i q,.l m,.i _n]=>.tup [.agg [.int .i64 ((Kc r q (upG c l q m (Int.toNat r) (Int.toNat q))).1),.int .i64 ((Kc r q (upG c l q m (Int.toNat r) (Int.toNat q))).2.1),.ints .fresh .u64 ((Kc r q (upG c l q m (Int.toNat r) (Int.toNat q))).2.2.1)],.int .i64 ((Kc r q (upG c l q m (Int.toNat r) (Int.toNat q))).2.2.2)]
  | _=>.undef
def solve.Bv.Up.spec:Entry:=entry [.st [.i .i64,.i .i64,.s .u64],.st [.i .i64,.i .i64,.s .u64],.fm 103 [.i .i64],.fn 104 []] solve.Bv.Up.pre solve.Bv.Up.out
def solve.Cl.pre:List Atom→Bool
  | [.i _r,.i _c,.l l,.i _p,.i _q,.l m]=>Ai l&&Ai m
  | _=>false
def solve.Cl.out:List Atom→DV
  | [.i r,.i c,.l l,.i p,.i q,.l m]=>.tup [.agg [.int .i64 ((Tf r c l p q m).1),.int .i64 ((Tf r c l p q m).2.1),.ints .fresh .u64 ((Tf r c l p q m).2.2.1)],.int .i64 ((Tf r c l p q m).2.2.2)]
  | _=>.undef
def solve.Cl.spec:Entry:=entry [.st [.i .i64,.i .i64,.s .u64],.st [.i .i64,.i .i64,.s .u64]] solve.Cl.pre solve.Cl.out
def solve.Flat.pre:List Atom→Bool
  | [.i _r,.i _c,.l l]=>Ai l
  | _=>false
def solve.Flat.out:List Atom→DV
  | [.i r,.i c,.l l]=>.tup [.bool ((Ov r c l).1),.int .i64 ((Ov r c l).2)]
  | _=>.undef
def solve.Flat.spec:Entry:=entry [.st [.i .i64,.i .i64,.s .u64]] solve.Flat.pre solve.Flat.out
def qr.Fu.pre:List Atom→Bool
  | [.i _r,.i _c,.l l,.i _p,.i _q,.l m]=>Ai l&&Ai m
  | _=>false
def qr.Fu.out:List Atom→DV
  | [.i r,.i c,.l l,.i p,.i q,.l m]=>.tup [.agg [.int .i64 ((Dr r c l p q m).1),.int .i64 ((Dr r c l p q m).2.1),.ints .fresh .u64 ((Dr r c l p q m).2.2.1)],.int .i64 ((Dr r c l p q m).2.2.2)]
  | _=>.undef
def qr.Fu.spec:Entry:=entry [.st [.i .i64,.i .i64,.s .u64],.st [.i .i64,.i .i64,.s .u64]] qr.Fu.pre qr.Fu.out
def Ag.Div.pre:List Atom→Bool
  | [.i a,.i b]=>Af a&&Af b
  | _=>false
def Ag.Div.out:List Atom→DV
  | [.i a,.i b]=>.int .u64 (Fa a b)
  | _=>.undef
def Ag.Div.spec:Entry:=entry [.i .u64,.i .u64] Ag.Div.pre Ag.Div.out
def Ag.Finite.pre:List Atom→Bool
  | [.l x]=>Ck x
  | _=>false
def Ag.Finite.out:List Atom→DV
  | [.l x]=>.bool (Da x)
  | _=>.undef
def Ag.Finite.spec:Entry:=entry [.s .u64] Ag.Finite.pre Ag.Finite.out
def Gs.Check.pre:List Atom→Bool
  | [.i _r,.i _c,.l l]=>Ai l
  | _=>false
def Gs.Check.out:List Atom→DV
  | [.i r,.i c,.l l]=>.int .i64 (Cd r c l)
  | _=>.undef
def Gs.Check.spec:Entry:=entry [.st [.i .i64,.i .i64,.s .u64]] Gs.Check.pre Gs.Check.out
def A7.Check.pre:List Atom→Bool
  | [.i _r,.i _c,.l l,.i _p,.i _q,.l m]=>Ai l&&Ai m
  | _=>false
def A7.Check.out:List Atom→DV
  | [.i r,.i c,.l l,.i p,.i q,.l m]=>.int .i64 (N1 r c l p q m)
  | _=>.undef
def A7.Check.spec:Entry:=entry [.st [.i .i64,.i .i64,.s .u64],.st [.i .i64,.i .i64,.s .u64]] A7.Check.pre A7.Check.out
def A7.finite.pre:List Atom→Bool
  | [.i r,.i c,.l l]=>Ai l&&A0 r c l
  | _=>false
def A7.finite.out:List Atom→DV
  | [.i r,.i c,.l l]=>.tup [.agg [.int .i64 ((Kc r c l).1),.int .i64 ((Kc r c l).2.1),.ints .arg .u64 ((Kc r c l).2.2.1)],.int .i64 ((Kc r c l).2.2.2)]
  | _=>.undef
def A7.finite.spec:Entry:=entry [.st [.i .i64,.i .i64,.s .u64]] A7.finite.pre A7.finite.out
def A7.Cl.pre:List Atom→Bool
  | [.i _r,.i _c,.l l,.i _p,.i _q,.l m]=>Ai l&&Ai m
  | _=>false
def A7.Cl.out:List Atom→DV
  | [.i r,.i c,.l l,.i p,.i q,.l m]=>.tup [.agg [.int .i64 ((Tf r c l p q m).1),.int .i64 ((Tf r c l p q m).2.1),.ints .arg .u64 ((Tf r c l p q m).2.2.1)],.int .i64 ((Tf r c l p q m).2.2.2)]
  | _=>.undef
def A7.Cl.spec:Entry:=entry [.st [.i .i64,.i .i64,.s .u64],.st [.i .i64,.i .i64,.s .u64]] A7.Cl.pre A7.Cl.out
def math.Ho.pre:List Atom→Bool
  | [.f _x]=>true
  | _=>false
def math.Ho.out:List Atom→DV
  | [.f x]=>.fl (G7 x)
  | _=>.undef
def math.Ho.spec:Entry:=entry [.fl] math.Ho.pre math.Ho.out
def math.Ib.pre:List Atom→Bool
  | [.f x]=>Tb x
  | _=>false
def math.Ib.out:List Atom→DV
  | [.f x]=>.bool (decide (Al x=4))
  | _=>.undef
def math.Ib.spec:Entry:=entry [.fl] math.Ib.pre math.Ib.out
def math.Ic.pre:List Atom→Bool
  | [.f x,.i s]=>Tb x&&decide (s=0)
  | _=>false
def math.Ic.out:List Atom→DV
  | [.f x,.i _s]=>.bool (decide (Al x=3))
  | _=>.undef
def math.Ic.spec:Entry:=entry [.fl,.i .i64] math.Ic.pre math.Ic.out
def math.normalize.pre:List Atom→Bool
  | [.f x]=>Afj x
  | _=>false
def math.normalize.out:List Atom→DV
  | [.f x]=>.tup [.fl (L4 x),.int .i64 (Iz x)]
  | _=>.undef
def math.normalize.spec:Entry:=entry [.fl] math.normalize.pre math.normalize.out
def math.D3.pre:List Atom→Bool
  | [.f x,.f y]=>Afj y&&decide (x=0)
  | _=>false
def math.D3.out:List Atom→DV
  | [.f _x,.f y]=>.fl (Bk (Bs y) 0)
  | _=>.undef
def math.D3.spec:Entry:=entry [.fl,.fl] math.D3.pre math.D3.out
def math.Xd.pre:List Atom→Bool
  | [.i _s]=>true
  | _=>false
def math.Xd.out:List Atom→DV
  | [.i s]=>.fl (Bk (decide (s<0)) D8)
  | _=>.undef
def math.Xd.spec:Entry:=entry [.i .i64] math.Xd.pre math.Xd.out
def math.Hc.pre:List Atom→Bool
  | [.f x,.i k]=>Tb x&&Cu (-2300≤k∧k≤2300)
  | _=>false
def math.Hc.out:List Atom→DV
  | [.f x,.i k]=>.fl (Iq x k)
  | _=>.undef
def math.Hc.spec:Entry:=entry [.fl,.i .i64] math.Hc.pre math.Hc.out
def math.Iv.pre:List Atom→Bool
  | [.f x,.i k]=>Tb x&&Cu (-2300≤k∧k≤2300)
  | _=>false
def math.Iv.out:List Atom→DV
  | [.f x,.i k]=>.fl (Iq x k)
  | _=>.undef
def math.Iv.spec:Entry:=entry [.fl,.i .i64] math.Iv.pre math.Iv.out
def Ag.Br.pre:List Atom→Bool
  | [.i a,.i k]=>Db a k
  | _=>false
def Ag.Br.out:List Atom→DV
  | [.i a,.i k]=>.int .u64 (Bw a k)
  | _=>.undef
def Ag.Br.spec:Entry:=entry [.i .u64,.i .i64] Ag.Br.pre Ag.Br.out
def Bo.ends.pre:List Atom→Bool
  | [.i b]=>Af b
  | _=>false
def Bo.ends.out:List Atom→DV
  | [.i b]=>.int .i64 (Qr b)
  | _=>.undef
def Bo.ends.spec:Entry:=entry [.i .u64] Bo.ends.pre Bo.ends.out
def Bo.Order.pre:List Atom→Bool
  | [.i a,.i b]=>Af a&&Af b
  | _=>false
def Bo.Order.out:List Atom→DV
  | [.i a,.i b]=>.tup [.int .i64 (Sp a b),.bool (Aat a b)]
  | _=>.undef
def Bo.Order.spec:Entry:=entry [.i .u64,.i .u64] Bo.Order.pre Bo.Order.out
def Bo.Ho.pre:List Atom→Bool
  | [.i a]=>Af a
  | _=>false
def Bo.Ho.out:List Atom→DV
  | [.i a]=>.int .u64 (I7 a)
  | _=>.undef
def Bo.Ho.spec:Entry:=entry [.i .u64] Bo.Ho.pre Bo.Ho.out
def Bo.Max.pre:List Atom→Bool
  | [.i a,.i b]=>Af a&&Af b
  | _=>false
def Bo.Max.out:List Atom→DV
  | [.i a,.i b]=>.int .u64 (Om a b)
  | _=>.undef
def Bo.Max.spec:Entry:=entry [.i .u64,.i .u64] Bo.Max.pre Bo.Max.out
def A7.Flat.pre:List Atom→Bool
  | [.i r,.i c,.l l]=>(A0 r c l&&Ai l)&&Da l
  | _=>false
def A7.Flat.out:List Atom→DV
  | [.i r,.i c,.l l]=>.bool (Qp r c l)
  | _=>.undef
def A7.Flat.spec:Entry:=entry [.st [.i .i64,.i .i64,.s .u64]] A7.Flat.pre A7.Flat.out
def root.Gt.pre:List Atom→Bool
  | [.i m]=>Cu (0≤m∧m<9223372036854775808)
  | _=>false
def root.Gt.out:List Atom→DV
  | [.i m]=>.tup [.int .u64 (Uf m),.bool (Ug m)]
  | _=>.undef
def root.Gt.spec:Entry:=entry [.i .u64] root.Gt.pre root.Gt.out
def root.Sqrt.pre:List Atom→Bool
  | [.i a]=>Af a
  | _=>false
def root.Sqrt.out:List Atom→DV
  | [.i a]=>.tup [.int .u64 (Fq a),.int .u8 (P8 a)]
  | _=>.undef
def root.Sqrt.spec:Entry:=entry [.i .u64] root.Sqrt.pre root.Sqrt.out
def Ae.Sqrt.pre:List Atom→Bool
  | [.i a]=>Af a
  | _=>false
def Ae.Sqrt.out:List Atom→DV
  | [.i a]=>.int .u64 (Fq a)
  | _=>.undef
def Ae.Sqrt.spec:Entry:=entry [.i .u64] Ae.Sqrt.pre Ae.Sqrt.out
def compare.Lj.pre:List Atom→Bool
  | [.i a]=>Af a
  | _=>false
def compare.Lj.out:List Atom→DV
  | [.i a]=>.int .i64 (Bq a)
  | _=>.undef
def compare.Lj.spec:Entry:=entry [.i .u64] compare.Lj.pre compare.Lj.out
def Ae.Norm.pre:List Atom→Bool
  | [.l x]=>Ck x&&Cu (List.length x≤64)
  | _=>false
def Ae.Norm.out:List Atom→DV
  | [.l x]=>.tup [.int .u64 (Df x),.int .i64 (0:Int)]
  | _=>.undef
def Ae.Norm.spec:Entry:=entry [.s .u64] Ae.Norm.pre Ae.Norm.out
def Aq.By.pre:List Atom→Bool
  | [.l x]=>Ck x
  | _=>false
def Aq.By.out:List Atom→DV
  | [.l x]=>.bool (Ea x)
  | _=>.undef
def Aq.By.spec:Entry:=entry [.s .u64] Aq.By.pre Aq.By.out
def Aq.lead.pre:List Atom→Bool
  | [.l x]=>Ck x
  | _=>false
def Aq.lead.out:List Atom→DV
  | [.l x]=>.int .u64 (Oo x)
  | _=>.undef
def Aq.lead.spec:Entry:=entry [.s .u64] Aq.lead.pre Aq.lead.out
def Aq.Dg.pre:List Atom→Bool
  | [.l x,.i k]=>Ck x&&Cu (List.length x≤1000∧-2300≤k∧k≤2300)
  | _=>false
def Aq.Dg.out:List Atom→DV
  | [.l x,.i k]=>.ints .fresh .u64 (Bm x k)
  | _=>.undef
def Aq.Dg.spec:Entry:=entry [.s .u64,.i .i64] Aq.Dg.pre Aq.Dg.out
def Aq.Fz.pre:List Atom→Bool
  | [.i _i]=>true
  | _=>false
def Aq.Fz.out:List Atom→DV
  | [.i _i]=>.int .u64 (0:Int)
  | _=>.undef
def Aq.Fz.spec:Entry:=entry [.i .i64] Aq.Fz.pre Aq.Fz.out
def Aq.Fy.pre:List Atom→Bool
  | [.i i,.l y,.i d]=>(Cu (0≤i∧i<List.length y)&&Ai y)&&Af d
  | _=>false
def Aq.Fy.out:List Atom→DV
  | [.i i,.l y,.i d]=>.int .u64 (Fa (List.getD y (Int.toNat i) 0) d)
  | _=>.undef
def Aq.Fy.spec:Entry:=entry [.i .i64,.cp [.s .u64],.cp [.i .u64]] Aq.Fy.pre Aq.Fy.out
def Aq.row.Zero.pre:List Atom→Bool
  | [.i n]=>Cu (1≤n∧n≤64)
  | _=>false
def Aq.row.Zero.out:List Atom→DV
  | [.i n]=>.ints .fresh .u64 (I6 (Int.toNat n) (fun _=>0))
  | _=>.undef
def Aq.row.Zero.spec:Entry:=entry [.i .i64,.fn 254 []] Aq.row.Zero.pre Aq.row.Zero.out
def Aq.row.Div.pre:List Atom→Bool
  | [.i n,.l y,.i d]=>(Cu (1≤n∧n≤64∧n=List.length y)&&Ai y)&&Af d
  | _=>false
def Aq.row.Div.out:List Atom→DV
  | [.i n,.l y,.i d]=>.ints .fresh .u64 (I6 (Int.toNat n) (fun j=>Fa (List.getD y j 0) d))
  | _=>.undef
def Aq.row.Div.spec:Entry:=entry [.i .i64,.fn 259 [.cp [.s .u64],.cp [.i .u64]]] Aq.row.Div.pre Aq.row.Div.out
def Aq.Dl.pre:List Atom→Bool
  | [.l x]=>Ck x
  | _=>false
def Aq.Dl.out:List Atom→DV
  | [.l x]=>.tup [.ints .fresh .u64 ((Cg x).1),.int .u64 ((Cg x).2.1),.int .u64 ((Cg x).2.2.1),.int .i64 ((Cg x).2.2.2)]
  | _=>.undef
def Aq.Dl.spec:Entry:=entry [.s .u64] Aq.Dl.pre Aq.Dl.out
def Aq.Apply.pre:List Atom→Bool
  | [.i r,.i c,.l l,.i i,.i k,.l v,.i t]=>((A0 r c l&&Hl r c i k v)&&(Ai l&&Ai v))&&Af t
  | _=>false
def Aq.Apply.out:List Atom→DV
  | [.i r,.i c,.l l,.i i,.i k,.l v,.i t]=>.tup [.agg [.int .i64 r,.int .i64 c,.ints (.own 114002 37) .u64 (E7 (Int.toNat r) (Int.toNat c) l i k v t)],.int .i64 (0:Int)]
  | _=>.undef
def Aq.Apply.spec:Entry:=entry [.st [.i .i64,.i .i64,.s .u64],.i .i64,.i .i64,.s .u64,.i .u64] Aq.Apply.pre Aq.Apply.out
def qr.down.pre:List Atom→Bool
  | [.i r,.i c,.l l]=>(A0 r c l&&Da l)&&Ai l
  | _=>false
def qr.down.out:List Atom→DV
  | [.i r,.i c,.l l]=>.tup [.agg [.int .i64 ((F6 r c l).1),.int .i64 ((F6 r c l).2.1),.ints .arg .u64 ((F6 r c l).2.2.1)],.recs .fresh 2 (Ko r c l),.int .i64 ((F6 r c l).2.2.2)]
  | _=>.undef
def qr.down.spec:Entry:=entry [.st [.i .i64,.i .i64,.s .u64]] qr.down.pre qr.down.out
def qr.B0.pre:List Atom→Bool
  | [.i _r,.i _c,.l l]=>Ai l
  | _=>false
def qr.B0.out:List Atom→DV
  | [.i r,.i c,.l l]=>.tup [.agg [.int .i64 ((qX r c l).1),.int .i64 ((qX r c l).2.1),.ints .arg .u64 ((qX r c l).2.2.1)],.agg [.int .i64 ((rX r c l).1),.int .i64 ((rX r c l).2.1),.ints .arg .u64 ((rX r c l).2.2.1)],.int .i64 (E6 r c l)]
  | _=>.undef
def qr.B0.spec:Entry:=entry [.st [.i .i64,.i .i64,.s .u64]] qr.B0.pre qr.B0.out
def qr.F9.pre:List Atom→Bool
  | [.i _r,.i _c,.l l]=>Ai l
  | _=>false
def qr.F9.out:List Atom→DV
  | [.i r,.i c,.l l]=>.tup [.agg [.int .i64 ((D7 r c l).1),.int .i64 ((D7 r c l).2.1),.ints .fresh .u64 ((D7 r c l).2.2.1)],.agg [.int .i64 ((Ig r c l).1),.int .i64 ((Ig r c l).2.1),.ints .fresh .u64 ((Ig r c l).2.2.1)],.int .i64 (E6 r c l)]
  | _=>.undef
def qr.F9.spec:Entry:=entry [.st [.i .i64,.i .i64,.s .u64]] qr.F9.pre qr.F9.out
def solve.D2.pre:List Atom→Bool
  | [.i _r,.i _c,.l l,.i _p,.i _q,.l m]=>Ai l&&Ai m
  | _=>false
def solve.D2.out:List Atom→DV
  | [.i r,.i c,.l l,.i p,.i q,.l m]=>.tup [.agg [.int .i64 ((Fl r c l p q m).1),.int .i64 ((Fl r c l p q m).2.1),.ints .fresh .u64 ((Fl r c l p q m).2.2.1)],.int .i64 ((Fl r c l p q m).2.2.2)]
  | _=>.undef
def solve.D2.spec:Entry:=entry [.st [.i .i64,.i .i64,.s .u64],.st [.i .i64,.i .i64,.s .u64]] solve.D2.pre solve.D2.out
def Bo.Lj.pre:List Atom→Bool
  | [.i a]=>Af a
  | _=>false
def Bo.Lj.out:List Atom→DV
  | [.i a]=>.int .i64 (Bq a)
  | _=>.undef
def Bo.Lj.spec:Entry:=entry [.i .u64] Bo.Lj.pre Bo.Lj.out
def Ag.Bn.pre:List Atom→Bool
  | [.l x]=>Ck x
  | _=>false
def Ag.Bn.out:List Atom→DV
  | [.l x]=>.int .u64 (Be x)
  | _=>.undef
def Ag.Bn.spec:Entry:=entry [.s .u64] Ag.Bn.pre Ag.Bn.out
def math.Sqrt.pre:List Atom→Bool
  | [.f _x]=>true
  | _=>false
def math.Sqrt.out:List Atom→DV
  | [.f x]=>.fl (((Ieee.double.sqrt x).getD nanBits))
  | _=>.undef
def math.Sqrt.spec:Entry:=entry [.fl] math.Sqrt.pre math.Sqrt.out
def Ag.Sqrt.pre:List Atom→Bool
  | [.i a]=>Af a
  | _=>false
def Ag.Sqrt.out:List Atom→DV
  | [.i a]=>.int .u64 (Fq a)
  | _=>.undef
def Ag.Sqrt.spec:Entry:=entry [.i .u64] Ag.Sqrt.pre Ag.Sqrt.out
def Ag.Norm.pre:List Atom→Bool
  | [.l x]=>Ck x
  | _=>false
def Ag.Norm.out:List Atom→DV
  | [.l x]=>.int .u64 (Df x)
  | _=>.undef
def Ag.Norm.spec:Entry:=entry [.s .u64] Ag.Norm.pre Ag.Norm.out
def Bb.By.pre:List Atom→Bool
  | [.l x]=>Ck x
  | _=>false
def Bb.By.out:List Atom→DV
  | [.l x]=>.bool (Ea (List.drop 1 x))
  | _=>.undef
def Bb.By.spec:Entry:=entry [.s .u64] Bb.By.pre Bb.By.out
def Bb.lead.pre:List Atom→Bool
  | [.l x]=>Ck x
  | _=>false
def Bb.lead.out:List Atom→DV
  | [.l x]=>.int .i64 (Px x 0)
  | _=>.undef
def Bb.lead.spec:Entry:=entry [.s .u64] Bb.lead.pre Bb.lead.out
def Bb.Dl.pre:List Atom→Bool
  | [.l x]=>Ck x&&Cu (1≤List.length x∧List.length x≤64)
  | _=>false
def Bb.Dl.out:List Atom→DV
  | [.l x]=>.tup [.agg [.ints .fresh .u64 ((Jh x).1),.int .u64 ((Jh x).2.1),.int .u64 ((Jh x).2.2.1)],.bool (decide ((Jh x).2.2.2=0))]
  | _=>.undef
def Bb.Dl.spec:Entry:=entry [.s .u64] Bb.Dl.pre Bb.Dl.out
def Bb.Apply.pre:List Atom→Bool
  | [.i r,.i c,.l l,.i i,.i k,.l v,.i t]=>((A0 r c l&&Hl r c i k v)&&(Ai l&&Ai v))&&Af t
  | _=>false
def Bb.Apply.out:List Atom→DV
  | [.i r,.i c,.l l,.i i,.i k,.l v,.i t]=>.agg [.int .i64 r,.int .i64 c,.ints .arg .u64 (E7 (Int.toNat r) (Int.toNat c) l i k v t)]
  | _=>.undef
def Bb.Apply.spec:Entry:=entry [.st [.i .i64,.i .i64,.s .u64],.i .i64,.i .i64,.s .u64,.i .u64] Bb.Apply.pre Bb.Apply.out
def B4.Dh.pre:List Atom→Bool
  | [.i r,.i c,.l l,.i j,.i _b]=>A0 r c l&&Cu (0≤j∧j<r∧j<c)
  | _=>false
def B4.Dh.out:List Atom→DV
  | [.i r,.i c,.l l,.i j,.i b]=>.agg [.int .i64 r,.int .i64 c,.ints .arg .u64 (M3 (Int.toNat r) (Int.toNat c) l (Int.toNat j) b)]
  | _=>.undef
def B4.Dh.spec:Entry:=entry [.st [.i .i64,.i .i64,.s .u64],.i .i64,.i .u64] B4.Dh.pre B4.Dh.out
def B4.B0.pre:List Atom→Bool
  | [.i r,.i c,.l l]=>(A0 r c l&&Da l)&&Ai l
  | _=>false
def B4.B0.out:List Atom→DV
  | [.i r,.i c,.l l]=>.agg [.int .i64 ((qX r c l).1),.int .i64 ((qX r c l).2.1),.ints .arg .u64 ((qX r c l).2.2.1),.int .i64 ((rX r c l).1),.int .i64 ((rX r c l).2.1),.ints .arg .u64 ((rX r c l).2.2.1),.bool (decide (E6 r c l=0))]
  | _=>.undef
def B4.B0.spec:Entry:=entry [.st [.i .i64,.i .i64,.s .u64]] B4.B0.pre B4.B0.out
def B4.F9.pre:List Atom→Bool
  | [.i r,.i c,.l l]=>(A0 r c l&&Da l)&&Ai l
  | _=>false
def B4.F9.out:List Atom→DV
  | [.i r,.i c,.l l]=>.agg [.int .i64 ((D7 r c l).1),.int .i64 ((D7 r c l).2.1),.ints .arg .u64 ((D7 r c l).2.2.1),.int .i64 ((Ig r c l).1),.int .i64 ((Ig r c l).2.1),.ints .arg .u64 ((Ig r c l).2.2.1),.bool (decide (E6 r c l=0))]
  | _=>.undef
def B4.F9.spec:Entry:=entry [.st [.i .i64,.i .i64,.s .u64]] B4.F9.pre B4.F9.out
def A7.D2.pre:List Atom→Bool
  | [.i _r,.i _c,.l l,.i _p,.i _q,.l m]=>Ai l&&Ai m
  | _=>false
def A7.D2.out:List Atom→DV
  | [.i r,.i c,.l l,.i p,.i q,.l m]=>.tup [.agg [.int .i64 ((Fl r c l p q m).1),.int .i64 ((Fl r c l p q m).2.1),.ints .arg .u64 ((Fl r c l p q m).2.2.1)],.int .i64 ((Fl r c l p q m).2.2.2)]
  | _=>.undef
def A7.D2.spec:Entry:=entry [.st [.i .i64,.i .i64,.s .u64],.st [.i .i64,.i .i64,.s .u64]] A7.D2.pre A7.D2.out
def Aj.Stack.pre:List Atom→Bool
  | [.i r,.i c,.l l,.i p,.i q,.l m]=>(A0 r c l&&A0 p q m)&&decide (q=c)
  | _=>false
def Aj.Stack.out:List Atom→DV
  | [.i r,.i c,.l l,.i p,.i _q,.l m]=>.agg [.int .i64 (r+p),.int .i64 c,.ints .fresh .u64 (l++m)]
  | _=>.undef
def Aj.Stack.spec:Entry:=entry [.st [.i .i64,.i .i64,.s .u64],.st [.i .i64,.i .i64,.s .u64]] Aj.Stack.pre Aj.Stack.out
def Axp.Hu.pre:List Atom→Bool
  | []=>true
  | _=>false
def gglm.Check.pre:List Atom→Bool
  | [.i _r,.i _c,.l l,.i _p,.i _q,.l m,.i _u,.i _v,.l h]=>N3 l m h
  | _=>false
def Ae.Er.pre:List Atom→Bool
  | [.i i,.i x,.l l]=>(Cu (0≤i∧i<List.length l)&&Ai l)&&Af x
  | _=>false
def Ae.Er.out:List Atom→DV
  | [.i i,.i x,.l l]=>.int .u64 (D1 x (List.getD l (Int.toNat i) 0))
  | _=>.undef
def Ae.Er.spec:Entry:=entry [.i .i64,.cp [.i .u64],.cp [.s .u64]] Ae.Er.pre Ae.Er.out
def Ae.each.Ca.pre:List Atom→Bool
  | [.i n,.i x,.l l]=>((Cu (0≤n∧n≤64∧n=List.length l))&&Ai l)&&Af x
  | _=>false
def Ae.each.Ca.out:List Atom→DV
  | [.i _n,.i x,.l l]=>.ints .fresh .u64 (Cy x l)
  | _=>.undef
def Ae.each.Ca.spec:Entry:=entry [.i .i64,.fn 203 [.cp [.i .u64],.cp [.s .u64]]] Ae.each.Ca.pre Ae.each.Ca.out
def Ae.Ca.pre:List Atom→Bool
  | [.i x,.l l]=>(Ck l&&Af x)&&Cu (List.length l≤64)
  | _=>false
def Ae.Ca.out:List Atom→DV
  | [.i x,.l l]=>.tup [.ints .fresh .u64 (Cy x l),.int .i64 (0:Int)]
  | _=>.undef
def Ae.Ca.spec:Entry:=entry [.i .u64,.s .u64] Ae.Ca.pre Ae.Ca.out
def Dx.C6.pre:List Atom→Bool
  | [.i _r,.i _c,.l l,.i _p,.i _q,.l m,.i _u,.i _v,.l h]=>N3 l m h
  | _=>false
def Dx.C6.out:List Atom→DV
  | [.i r,.i c,.l l,.i p,.i q,.l m,.i u,.i v,.l h]=>.int .i64 (M4 r c l p q m u v h)
  | _=>.undef
def Dx.C6.spec:Entry:=entry [.rs 3 [[.i .i64,.i .i64,.s .u64],[.i .i64,.i .i64,.s .u64],[.i .i64,.i .i64,.s .u64]]] Dx.C6.pre Dx.C6.out
def Dx.F0.pre:List Atom→Bool
  | [.i _r,.i _c,.l l,.i _p,.i _q,.l m,.i _u,.i _v,.l h,.i x]=>N3 l m h&&Af x
  | _=>false
def Dx.F0.out:List Atom→DV
  | [.i r,.i c,.l l,.i p,.i q,.l m,.i u,.i v,.l h,.i x]=>.tup [.agg [.int .i64 ((Dy r c l p q m u v h x).1),.int .i64 ((Dy r c l p q m u v h x).2.1),.ints .fresh .u64 ((Dy r c l p q m u v h x).2.2.1)],.int .i64 ((Dy r c l p q m u v h x).2.2.2)]
  | _=>.undef
def Dx.F0.spec:Entry:=entry [.st [.i .i64,.i .i64,.s .u64],.st [.i .i64,.i .i64,.s .u64],.st [.i .i64,.i .i64,.s .u64],.i .u64] Dx.F0.pre Dx.F0.out
def Ag.Ca.pre:List Atom→Bool
  | [.i x,.l l]=>(Ck l&&Af x)&&Cu (List.length l≤64)
  | _=>false
def Ag.Ca.out:List Atom→DV
  | [.i x,.l l]=>.ints .fresh .u64 (Cy x l)
  | _=>.undef
def Ag.Ca.spec:Entry:=entry [.i .u64,.s .u64] Ag.Ca.pre Ag.Ca.out
def Bx.C6.pre:List Atom→Bool
  | [.i _r,.i _c,.l l,.i _p,.i _q,.l m,.i _u,.i _v,.l h]=>N3 l m h
  | _=>false
def Bx.C6.out:List Atom→DV
  | [.i r,.i c,.l l,.i p,.i q,.l m,.i u,.i v,.l h]=>.int .i64 (M4 r c l p q m u v h)
  | _=>.undef
def Bx.C6.spec:Entry:=entry [.st [.i .i64,.i .i64,.s .u64],.st [.i .i64,.i .i64,.s .u64],.st [.i .i64,.i .i64,.s .u64]] Bx.C6.pre Bx.C6.out
def Bx.Zr.pre:List Atom→Bool
  | [.i r,.i c,.l l,.i u,.i v,.l h,.i x]=>((A0 r c l&&A0 u v h)&&(Ai h&&Af x))&&decide (v=c)
  | _=>false
def Bx.Zr.out:List Atom→DV
  | [.i r,.i c,.l l,.i u,.i _v,.l h,.i x]=>.agg [.int .i64 (r+u),.int .i64 c,.ints .fresh .u64 (l++Cy x h)]
  | _=>.undef
def Bx.Zr.spec:Entry:=entry [.st [.i .i64,.i .i64,.s .u64],.st [.i .i64,.i .i64,.s .u64],.i .u64] Bx.Zr.pre Bx.Zr.out
def Bx.M9.pre:List Atom→Bool
  | [.i p,.i q,.l m,.i u,.i _v,.l _h]=>(A0 p q m&&Bg u)&&decide (q=1)
  | _=>false
def Bx.M9.out:List Atom→DV
  | [.i p,.i _q,.l m,.i u,.i _v,.l _h]=>.agg [.int .i64 (p+u),.int .i64 (1:Int),.ints .fresh .u64 (m++List.replicate (Int.toNat u) 0)]
  | _=>.undef
def Bx.M9.spec:Entry:=entry [.st [.i .i64,.i .i64,.s .u64],.st [.i .i64,.i .i64,.s .u64]] Bx.M9.pre Bx.M9.out
def Bx.Dm.pre:List Atom→Bool
  | [.i _r,.i _c,.l l,.i _p,.i _q,.l m,.i _u,.i _v,.l h,.i x]=>N3 l m h&&Af x
  | _=>false
def Bx.Dm.out:List Atom→DV
  | [.i r,.i c,.l l,.i p,.i q,.l m,.i u,.i v,.l h,.i x]=>.int .i64 (Oa r c l p q m u v h x)
  | _=>.undef
def Bx.Dm.spec:Entry:=entry [.st [.i .i64,.i .i64,.s .u64],.st [.i .i64,.i .i64,.s .u64],.st [.i .i64,.i .i64,.s .u64],.i .u64] Bx.Dm.pre Bx.Dm.out
def Bx.F0.pre:List Atom→Bool
  | [.i _r,.i _c,.l l,.i _p,.i _q,.l m,.i _u,.i _v,.l h,.i x]=>N3 l m h&&Af x
  | _=>false
def Bx.F0.out:List Atom→DV
  | [.i r,.i c,.l l,.i p,.i q,.l m,.i u,.i v,.l h,.i x]=>.tup [.agg [.int .i64 ((Dy r c l p q m u v h x).1),.int .i64 ((Dy r c l p q m u v h x).2.1),.ints .arg .u64 ((Dy r c l p q m u v h x).2.2.1)],.int .i64 ((Dy r c l p q m u v h x).2.2.2)]
  | _=>.undef
def Bx.F0.spec:Entry:=entry [.st [.i .i64,.i .i64,.s .u64],.st [.i .i64,.i .i64,.s .u64],.st [.i .i64,.i .i64,.s .u64],.i .u64] Bx.F0.pre Bx.F0.out
def Cv.one.pre:List Atom→Bool
  | [.i _b]=>true
  | _=>false
def Cv.one.out:List Atom→DV
  | [.i b]=>.agg [.int .i64 (1:Int),.int .i64 (1:Int),.ints .fresh .u64 ([b])]
  | _=>.undef
def Cv.one.spec:Entry:=entry [.i .u64] Cv.one.pre Cv.one.out
def Cv.Hu.pre:List Atom→Bool
  | []=>true
  | _=>false
def Cv.Hu.out:List Atom→DV
  | []=>.bool true
  | _=>.undef
def Cv.Hu.spec:Entry:=entry [] Cv.Hu.pre Cv.Hu.out
def Cv.Dc.pre:List Atom→Bool
  | [.i _r,.i _c,.l l,.i _p,.i _q,.l m,.i _u,.i _v,.l h,.i x]=>(N3 l m h&&Af x)&&((Mt l&&Mt m)&&Mt h)
  | _=>false
def Cv.Dc.out:List Atom→DV
  | [.i _r,.i _c,.l _l,.i _p,.i _q,.l _m,.i _u,.i _v,.l _h,.i _x]=>.bool true
  | _=>.undef
def Cv.Dc.spec:Entry:=entry [.st [.i .i64,.i .i64,.s .u64,.i .i64,.i .i64,.s .u64,.i .i64,.i .i64,.s .u64],.i .u64] Cv.Dc.pre Cv.Dc.out
def Aj.F8.arg.pre:List Atom→Bool
  | [.i r,.i c,.l l,.i i,.i k,.i _b]=>Cw r c l i k
  | _=>false
def Aj.F8.arg.out:List Atom→DV
  | [.i r,.i c,.l l,.i i,.i k,.i b]=>.agg [.int .i64 r,.int .i64 c,.ints .arg .u64 (List.set l (Int.toNat (i*c+k)) b)]
  | _=>.undef
def Aj.F8.arg.spec:Entry:=entry [.st [.i .i64,.i .i64,.s .u64],.i .i64,.i .i64,.i .u64] Aj.F8.arg.pre Aj.F8.arg.out
def Aj.Ew.arg.pre:List Atom→Bool
  | [.i n]=>Bg n
  | _=>false
def Aj.Ew.arg.out:List Atom→DV
  | [.i n]=>.agg [.int .i64 n,.int .i64 n,.ints .arg .u64 (I1 (Int.toNat n))]
  | _=>.undef
def Aj.Ew.arg.spec:Entry:=entry [.i .i64] Aj.Ew.arg.pre Aj.Ew.arg.out
def Ey.Canon.nb.pre:List Atom→Bool
  | [.f _x]=>true
  | _=>false
def Ey.Canon.nb.out:List Atom→DV
  | [.f x]=>.int .u64 (Ft x)
  | _=>.undef
def Ey.Canon.nb.spec:Entry:=entry [.nb] Ey.Canon.nb.pre Ey.Canon.nb.out
def Cz.Lg.pre:List Atom→Bool
  | [.i x]=>Af x
  | _=>false
def Cz.Lg.out:List Atom→DV
  | [.i x]=>.int .i64 (E2 x)
  | _=>.undef
def Cz.Lg.spec:Entry:=entry [.i .u64] Cz.Lg.pre Cz.Lg.out
theorem tt0:∀ a b c:Bool,((a==a)&&(b&&(c&&true)))=(b&&c):=by decide
theorem tt1:∀ a b:Bool,(bif a then b else false)=(a&&b):=by decide
theorem Ti:∀ a:Bool,(((!a)||(a==true))&&true)=true:=by decide
theorem Lv:∀ a:Bool,((!(a==true))||((((!(a==true))||(a==true))&&true)&&true))=true:=by decide
theorem O1:∀ a:Bool,((!(a==true))||true)=true:=by decide
theorem tt5:∀ a b:Bool,(bif a then true else b)=(a||b):=by decide
theorem Wt:∀ a:Bool,((!(!a))||(a==false))=true:=by decide
theorem P2:∀ a:Bool,((!(a==false))||((((!(a==false))||(a==false))&&true)&&true))=true:=by decide
theorem tt8:∀ a:Bool,((!(a==false))||((((!(a==false))||(a==false))&&(((!(a==false))||(a==false))&&true))&&true))=true:=by decide
theorem R7:∀ a:Bool,((!(a==false))||true)=true:=by decide
theorem Cs:∀ a:Bool,(a&&true)=a:=by decide
theorem Axc:∀ a b c d e:Bool,(bif a then (bif b then true else (bif c then (bif d then true else e) else false)) else false)=(a&&(b||(c&&(d||e)))):=by decide
theorem Axb:∀ a b:Bool,((!(a==true))||(((!(a==true))||(a==true))&&((!(!b))||((a==true)&&(b==false)))))=true:=by decide
theorem Axa:∀ a b c:Bool,((!((a==true)&&(b==false)))||(((!((a==true)&&(b==false)))||((a==true)&&(b==false)))&&(((!c)||(((a==true)&&(b==false))&&(c==true)))&&true)))=true:=by decide
theorem Aw9:∀ a b c d:Bool,((!(((a==true)&&(b==false))&&(c==true)))||(((!(((a==true)&&(b==false))&&(c==true)))||(((a==true)&&(b==false))&&(c==true)))&&((!(!d))||((((a==true)&&(b==false))&&(c==true))&&(d==false)))))=true:=by decide
theorem Au6:∀ a b c d:Bool,((!((((a==true)&&(b==false))&&(c==true))&&(d==false)))||((((!((((a==true)&&(b==false))&&(c==true))&&(d==false)))||((((a==true)&&(b==false))&&(c==true))&&(d==false)))&&true)&&true))=true:=by decide
theorem Aw8:∀ a b c d:Bool,((!((((a==true)&&(b==false))&&(c==true))&&(d==false)))||true)=true:=by decide
theorem Aw7:∀ a b c:Bool,((!(((a==true)&&(b==false))&&(c==true)))||((((!(((a==true)&&(b==false))&&(c==true)))||(((a==true)&&(b==false))&&(c==true)))&&true)&&true))=true:=by decide
theorem Aw6:∀ a b c:Bool,((!(((a==true)&&(b==false))&&(c==true)))||true)=true:=by decide
theorem Aw5:∀ a b:Bool,((!((a==true)&&(b==false)))||((((!((a==true)&&(b==false)))||((a==true)&&(b==false)))&&true)&&true))=true:=by decide
theorem Aw4:∀ a b:Bool,((!((a==true)&&(b==false)))||((((!((a==true)&&(b==false)))||((a==true)&&(b==false)))&&(((!((a==true)&&(b==false)))||((a==true)&&(b==false)))&&true))&&true))=true:=by decide
theorem Au5:∀ a b:Bool,((!((a==true)&&(b==false)))||true)=true:=by decide
theorem Abu:∀ a:Bool,((!(a==true))||((((!(a==true))||(a==true))&&(((!(a==true))||(a==true))&&true))&&true))=true:=by decide
theorem Asm:∀ a b:Bool,(bif (!a) then true else b)=((!a)||b):=by decide
theorem Abt:∀ a:Bool,((!(!(!a)))||((!a)==false))=true:=by decide
theorem R0:∀ a:Bool,((!((!a)==false))||((((!((!a)==false))||((!a)==false))&&true)&&true))=true:=by decide
theorem Abr:∀ a:Bool,((!((!a)==false))||true)=true:=by decide
theorem Aw3:∀ a b:Bool,(bif a then (!b) else false)=(a&&(!b)):=by decide
theorem Al9:∀ a b:Bool,(bif (!a) then true else (!b))=((!a)||(!b)):=by decide
theorem Al8:∀ a b:Bool,((!((!a)==false))||((((!((!a)==false))||((!a)==false))&&true)&&b))=((!a)||b):=by decide
theorem Au4:∀ a b c d:Bool,(bif (bif a then b else false) then true else (bif c then d else false))=((a&&b)||(c&&d)):=by decide
theorem Au3:∀ a b:Bool,((!(!(bif a then b else false)))||((bif a then b else false)==false))=true:=by decide
theorem Au2:∀ a b c:Bool,((!((bif a then b else false)==false))||(((!((bif a then b else false)==false))||((bif a then b else false)==false))&&(((!c)||(((bif a then b else false)==false)&&(c==true)))&&true)))=true:=by decide
theorem Au1:∀ a b c:Bool,((!(((bif a then b else false)==false)&&(c==true)))||((((!(((bif a then b else false)==false)&&(c==true)))||(((bif a then b else false)==false)&&(c==true)))&&true)&&true))=true:=by decide
theorem Au0:∀ a b c:Bool,((!(((bif a then b else false)==false)&&(c==true)))||true)=true:=by decide
theorem Apv:∀ a b:Bool,((!((bif a then b else false)==false))||((((!((bif a then b else false)==false))||((bif a then b else false)==false))&&true)&&true))=true:=by decide
theorem Auz:∀ a b:Bool,((!((bif a then b else false)==false))||true)=true:=by decide
theorem Lk:∀ a b:Bool,((a&&b)&&true)=(a&&b):=by decide
theorem Aw2:∀ a b c:Bool,(bif (bif (!a) then true else (!b)) then true else c)=(((!a)||(!b))||c):=by decide
theorem Aw1:∀ a b:Bool,((!(!(bif (!a) then true else (!b))))||((bif (!a) then true else (!b))==false))=true:=by decide
theorem Auy:∀ a b:Bool,((!((bif (!a) then true else (!b))==false))||((((!((bif (!a) then true else (!b))==false))||((bif (!a) then true else (!b))==false))&&(((!((bif (!a) then true else (!b))==false))||((bif (!a) then true else (!b))==false))&&true))&&true))=true:=by decide
theorem Apu:∀ a b:Bool,((!((bif (!a) then true else (!b))==false))||((((!((bif (!a) then true else (!b))==false))||((bif (!a) then true else (!b))==false))&&true)&&true))=true:=by decide
theorem Asl:∀ a b:Bool,((!((bif (!a) then true else (!b))==false))||true)=true:=by decide
theorem Aux:∀ a b c d:Bool,(((a&&b)&&(c&&d))&&true)=((a&&b)&&(c&&d)):=by decide
theorem Aw0:∀ a b c d e f g h:Bool,(bif (bif (bif (bif (bif (bif (bif a then true else b) then true else c) then true else d) then true else e) then true else f) then true else g) then true else h)=(((((((a||b)||c)||d)||e)||f)||g)||h):=by decide
theorem Awz:∀ a b c d e f g:Bool,((!(!(bif (bif (bif (bif (bif (bif a then true else b) then true else c) then true else d) then true else e) then true else f) then true else g)))||((bif (bif (bif (bif (bif (bif a then true else b) then true else c) then true else d) then true else e) then true else f) then true else g)==false))=true:=by decide
theorem Auw:∀ a b c d e f g:Bool,((!((bif (bif (bif (bif (bif (bif a then true else b) then true else c) then true else d) then true else e) then true else f) then true else g)==false))||((((!((bif (bif (bif (bif (bif (bif a then true else b) then true else c) then true else d) then true else e) then true else f) then true else g)==false))||((bif (bif (bif (bif (bif (bif a then true else b) then true else c) then true else d) then true else e) then true else f) then true else g)==false))&&(((!((bif (bif (bif (bif (bif (bif a then true else b) then true else c) then true else d) then true else e) then true else f) then true else g)==false))||((bif (bif (bif (bif (bif (bif a then true else b) then true else c) then true else d) then true else e) then true else f) then true else g)==false))&&true))&&true))=true:=by decide
theorem Asj:∀ a b c d e f g:Bool,((!((bif (bif (bif (bif (bif (bif a then true else b) then true else c) then true else d) then true else e) then true else f) then true else g)==false))||true)=true:=by decide
theorem Awy:∀ a b c d e f g:Bool,((!((bif (bif (bif (bif (bif (bif a then true else b) then true else c) then true else d) then true else e) then true else f) then true else g)==false))||((((!((bif (bif (bif (bif (bif (bif a then true else b) then true else c) then true else d) then true else e) then true else f) then true else g)==false))||((bif (bif (bif (bif (bif (bif a then true else b) then true else c) then true else d) then true else e) then true else f) then true else g)==false))&&true)&&true))=true:=by decide
theorem Awx:∀ a b c d e f:Bool,((!(!(bif (bif (bif (bif (bif a then true else b) then true else c) then true else d) then true else e) then true else f)))||((bif (bif (bif (bif (bif a then true else b) then true else c) then true else d) then true else e) then true else f)==false))=true:=by decide
theorem Auv:∀ a b c d e f:Bool,((!((bif (bif (bif (bif (bif a then true else b) then true else c) then true else d) then true else e) then true else f)==false))||((((!((bif (bif (bif (bif (bif a then true else b) then true else c) then true else d) then true else e) then true else f)==false))||((bif (bif (bif (bif (bif a then true else b) then true else c) then true else d) then true else e) then true else f)==false))&&(((!((bif (bif (bif (bif (bif a then true else b) then true else c) then true else d) then true else e) then true else f)==false))||((bif (bif (bif (bif (bif a then true else b) then true else c) then true else d) then true else e) then true else f)==false))&&true))&&true))=true:=by decide
theorem Asi:∀ a b c d e f:Bool,((!((bif (bif (bif (bif (bif a then true else b) then true else c) then true else d) then true else e) then true else f)==false))||true)=true:=by decide
theorem Aww:∀ a b c d e f:Bool,((!((bif (bif (bif (bif (bif a then true else b) then true else c) then true else d) then true else e) then true else f)==false))||((((!((bif (bif (bif (bif (bif a then true else b) then true else c) then true else d) then true else e) then true else f)==false))||((bif (bif (bif (bif (bif a then true else b) then true else c) then true else d) then true else e) then true else f)==false))&&true)&&true))=true:=by decide
theorem Awv:∀ a b c d e:Bool,((!(!(bif (bif (bif (bif a then true else b) then true else c) then true else d) then true else e)))||((bif (bif (bif (bif a then true else b) then true else c) then true else d) then true else e)==false))=true:=by decide
theorem Awu:∀ a b c d e:Bool,((!((bif (bif (bif (bif a then true else b) then true else c) then true else d) then true else e)==false))||((((!((bif (bif (bif (bif a then true else b) then true else c) then true else d) then true else e)==false))||((bif (bif (bif (bif a then true else b) then true else c) then true else d) then true else e)==false))&&(((!((bif (bif (bif (bif a then true else b) then true else c) then true else d) then true else e)==false))||((bif (bif (bif (bif a then true else b) then true else c) then true else d) then true else e)==false))&&true))&&true))=true:=by decide
theorem Awt:∀ a b c d e:Bool,((!((bif (bif (bif (bif a then true else b) then true else c) then true else d) then true else e)==false))||((((!((bif (bif (bif (bif a then true else b) then true else c) then true else d) then true else e)==false))||((bif (bif (bif (bif a then true else b) then true else c) then true else d) then true else e)==false))&&true)&&true))=true:=by decide
theorem Auu:∀ a b c d e:Bool,((!((bif (bif (bif (bif a then true else b) then true else c) then true else d) then true else e)==false))||true)=true:=by decide
theorem Aut:∀ a b c d:Bool,((!(!(bif (bif (bif a then true else b) then true else c) then true else d)))||((bif (bif (bif a then true else b) then true else c) then true else d)==false))=true:=by decide
theorem Aus:∀ a b c d:Bool,((!((bif (bif (bif a then true else b) then true else c) then true else d)==false))||((((!((bif (bif (bif a then true else b) then true else c) then true else d)==false))||((bif (bif (bif a then true else b) then true else c) then true else d)==false))&&(((!((bif (bif (bif a then true else b) then true else c) then true else d)==false))||((bif (bif (bif a then true else b) then true else c) then true else d)==false))&&true))&&true))=true:=by decide
theorem Aur:∀ a b c d:Bool,((!((bif (bif (bif a then true else b) then true else c) then true else d)==false))||((((!((bif (bif (bif a then true else b) then true else c) then true else d)==false))||((bif (bif (bif a then true else b) then true else c) then true else d)==false))&&true)&&true))=true:=by decide
theorem Apt:∀ a b c d:Bool,((!((bif (bif (bif a then true else b) then true else c) then true else d)==false))||true)=true:=by decide
theorem Aps:∀ a b c:Bool,((!(!(bif (bif a then true else b) then true else c)))||((bif (bif a then true else b) then true else c)==false))=true:=by decide
theorem Adr:∀ a b c:Bool,((!((bif (bif a then true else b) then true else c)==false))||((((!((bif (bif a then true else b) then true else c)==false))||((bif (bif a then true else b) then true else c)==false))&&true)&&true))=true:=by decide
theorem Ajj:∀ a b c:Bool,((!((bif (bif a then true else b) then true else c)==false))||true)=true:=by decide
theorem Apr:∀ a b:Bool,((!(!(bif a then true else b)))||((bif a then true else b)==false))=true:=by decide
theorem Agf:∀ a b:Bool,((!((bif a then true else b)==false))||((((!((bif a then true else b)==false))||((bif a then true else b)==false))&&true)&&true))=true:=by decide
theorem Adq:∀ a b:Bool,((!((bif a then true else b)==false))||true)=true:=by decide
theorem Aws:∀ a b c d:Bool,(((!(bif (bif (bif a then b else false) then c else false) then d else false))||((bif (bif (bif a then b else false) then c else false) then d else false)==true))&&true)=true:=by decide
theorem Auq:∀ a b c d:Bool,((!((bif (bif (bif a then b else false) then c else false) then d else false)==true))||((((!((bif (bif (bif a then b else false) then c else false) then d else false)==true))||((bif (bif (bif a then b else false) then c else false) then d else false)==true))&&(((!((bif (bif (bif a then b else false) then c else false) then d else false)==true))||((bif (bif (bif a then b else false) then c else false) then d else false)==true))&&true))&&true))=true:=by decide
theorem Apq:∀ a b c d:Bool,((!((bif (bif (bif a then b else false) then c else false) then d else false)==true))||((((!((bif (bif (bif a then b else false) then c else false) then d else false)==true))||((bif (bif (bif a then b else false) then c else false) then d else false)==true))&&true)&&true))=true:=by decide
theorem Ash:∀ a b c d:Bool,((!((bif (bif (bif a then b else false) then c else false) then d else false)==true))||true)=true:=by decide
theorem Awr:∀ a b c:Bool,(((!(bif (bif a then b else false) then c else false))||((bif (bif a then b else false) then c else false)==true))&&true)=true:=by decide
theorem Aup:∀ a b c:Bool,((!((bif (bif a then b else false) then c else false)==true))||((((!((bif (bif a then b else false) then c else false)==true))||((bif (bif a then b else false) then c else false)==true))&&true)&&true))=true:=by decide
theorem Awq:∀ a b c:Bool,((!((bif (bif a then b else false) then c else false)==true))||true)=true:=by decide
theorem Apo:∀ a b:Bool,(((!(bif a then b else false))||((bif a then b else false)==true))&&true)=true:=by decide
theorem Age:∀ a b:Bool,((!((bif a then b else false)==true))||((((!((bif a then b else false)==true))||((bif a then b else false)==true))&&true)&&true))=true:=by decide
theorem Al7:∀ a b:Bool,((!((bif a then b else false)==true))||true)=true:=by decide
theorem Awp:∀ a b c:Bool,((!((bif a then b else false)==true))||((((!((bif a then b else false)==true))||((bif a then b else false)==true))&&(((!((bif a then b else false)==true))||((bif a then b else false)==true))&&true))&&c))=((!(a&&b))||c):=by decide
theorem Awo:∀ a b c:Bool,((!(a==true))||((((!(a==true))||(a==true))&&(((!(a==true))||(a==true))&&true))&&(b&&c)))=((!a)||(b&&c)):=by decide
theorem Auo:∀ a:Bool,(((a&&true)&&true)&&true)=a:=by decide
theorem Awn:∀ a b:Bool,((!(a==true))||((((!(a==true))||(a==true))&&true)&&b))=((!a)||b):=by decide
theorem Awm:∀ a b:Bool,((!(a==true))||((((!(a==true))||(a==true))&&(((!(a==true))||(a==true))&&true))&&b))=((!a)||b):=by decide
theorem Apn:∀ a b:Bool,((!(a==false))||((((!(a==false))||(a==false))&&true)&&b))=(a||b):=by decide
theorem Aun:∀ a b:Bool,(bif a then true else (!b))=(a||(!b)):=by decide
theorem Asg:∀ a b c:Bool,((a&&b)&&((a&&c)&&true))=((a&&b)&&(a&&c)):=by decide
theorem Awl:∀ a:Bool,((a&&true)&&true)=a:=by decide
theorem Awk:∀ a b c d e:Bool,(bif (bif (bif (bif a then true else b) then true else c) then true else d) then true else e)=((((a||b)||c)||d)||e):=by decide
theorem Apm:∀ a b:Bool,((!((bif a then true else b)==false))||((((!((bif a then true else b)==false))||((bif a then true else b)==false))&&(((!((bif a then true else b)==false))||((bif a then true else b)==false))&&true))&&true))=true:=by decide
theorem Awj:∀ a b c:Bool,((!((bif a then b else false)==true))||((((!((bif a then b else false)==true))||((bif a then b else false)==true))&&true)&&c))=((!(a&&b))||c):=by decide
theorem Arx:∀ a b c:Bool,((!((bif (bif a then true else b) then true else c)==false))||((((!((bif (bif a then true else b) then true else c)==false))||((bif (bif a then true else b) then true else c)==false))&&(((!((bif (bif a then true else b) then true else c)==false))||((bif (bif a then true else b) then true else c)==false))&&true))&&true))=true:=by decide
theorem Arw:∀ a b c d:Bool,(bif (bif (bif a then true else b) then true else c) then true else d)=(((a||b)||c)||d):=by decide
open Go Go.Den Go.Rnd Go.Proofs
set_option maxRecDepth 100000
namespace EqSoft
def soft.Split.A6:List (Nat × Entry):=[]
def soft.Split.E:Env:=A9 (A5 soft.Split.A6) (fun _=>false) (fun _=>none) (fun _=>none)
theorem soft.Split.ev (N:Nat) (x:Int):Bp soft.Split.E N Tryz.f206 (An Tryz.f206) [.int .u64 x]=some (.agg [.bool ((De .u64 x 63)==(1:Int)),.int .i64 (Ab (Et .u64 (De .u64 x 52) 2047)),.int .u64 (Et .u64 x 4503599627370495)]):=by kernel_rfl
abbrev _root_.Go.Proofs.S1.soft.Split.Kn:=A3 Tryz.prog 206 soft.Split.spec
theorem soft.Split.Ac (hk:Ax Tryz.prog soft.Split.A6) (h:∀ (x:Int),soft.Split.pre [.i x]=true→A8 soft.Split.E Tryz.f206 [.int .u64 x] (soft.Split.out [.i x])):soft.Split.Kn :=
  Ak (Az hk _ _ _) Tryz.func206 (by kernel_rfl) (by kernel_rfl) h
def soft.Kind.A6:List (Nat × Entry):=[(206,soft.Split.spec)]
def soft.Kind.E:Env:=A9 (A5 soft.Kind.A6) (fun _=>false) (fun _=>none) (fun _=>none)
theorem soft.Kind.ev (N:Nat) (x:Int):Bp soft.Kind.E N Tryz.f155 (An Tryz.f155) [.int .u64 x]=bif (Af x) then bif (((Ll x)==(2047:Int))&&((C0 x)==(0:Int))) then some (.int .i64 3) else bif ((Ll x)==(2047:Int)) then some (.int .i64 4) else bif (A4 0 (Ll x)) then some (.int .i64 2) else bif (A4 0 (C0 x)) then some (.int .i64 1) else some (.int .i64 0) else none :=
  Eq.trans (by kernel_rfl)
  (Ej (C2 (tt0 (Dp x) ((Ll x)==(2047:Int)) ((C0 x)==(0:Int))) rfl rfl) rfl)
abbrev _root_.Go.Proofs.S1.soft.Kind.Kn:=A3 Tryz.prog 155 soft.Kind.spec
theorem soft.Kind.Ac (hk:Ax Tryz.prog soft.Kind.A6) (h:∀ (x:Int),soft.Kind.pre [.i x]=true→A8 soft.Kind.E Tryz.f155 [.int .u64 x] (soft.Kind.out [.i x])):soft.Kind.Kn :=
  Ak (Az hk _ _ _) Tryz.func155 (by kernel_rfl) (by kernel_rfl) h
def soft.Sign.A6:List (Nat × Entry):=[]
def soft.Sign.E:Env:=A9 (A5 soft.Sign.A6) (fun _=>false) (fun _=>none) (fun _=>none)
theorem soft.Sign.ev (N:Nat) (x:Int):Bp soft.Sign.E N Tryz.f213 (An Tryz.f213) [.int .u64 x]=some (.bool ((De .u64 x 63)==(1:Int))):=by kernel_rfl
abbrev _root_.Go.Proofs.S1.soft.Sign.Kn:=A3 Tryz.prog 213 soft.Sign.spec
theorem soft.Sign.Ac (hk:Ax Tryz.prog soft.Sign.A6) (h:∀ (x:Int),soft.Sign.pre [.i x]=true→A8 soft.Sign.E Tryz.f213 [.int .u64 x] (soft.Sign.out [.i x])):soft.Sign.Kn :=
  Ak (Az hk _ _ _) Tryz.func213 (by kernel_rfl) (by kernel_rfl) h
def soft.Finite.A6:List (Nat × Entry):=[(155,soft.Kind.spec)]
def soft.Finite.E:Env:=A9 (A5 soft.Finite.A6) (fun _=>false) (fun _=>none) (fun _=>none)
theorem soft.Finite.ev (N:Nat) (x:Int):Bp soft.Finite.E N Tryz.f148 (An Tryz.f148) [.int .u64 x]=bif (Af x) then bif ((Bd x)==(3:Int)) then some (.bool false) else bif ((Bd x)==(4:Int)) then some (.bool false) else some (.bool true) else none:=by kernel_rfl
abbrev _root_.Go.Proofs.S1.soft.Finite.Kn:=A3 Tryz.prog 148 soft.Finite.spec
theorem soft.Finite.Ac (hk:Ax Tryz.prog soft.Finite.A6) (h:∀ (x:Int),soft.Finite.pre [.i x]=true→A8 soft.Finite.E Tryz.f148 [.int .u64 x] (soft.Finite.out [.i x])):soft.Finite.Kn :=
  Ak (Az hk _ _ _) Tryz.func148 (by kernel_rfl) (by kernel_rfl) h
def soft.Dk.A6:List (Nat × Entry):=[]
def soft.Dk.E:Env:=A9 (A5 soft.Dk.A6) (fun _=>false) (fun _=>none) (fun _=>none)
theorem soft.Dk.ev (N:Nat) (x:Int):Bp soft.Dk.E N Tryz.f233 (An Tryz.f233) [.int .u64 x]=some (.int .u64 (Arl .u64 x 9223372036854775808)):=by kernel_rfl
abbrev _root_.Go.Proofs.S1.soft.Dk.Kn:=A3 Tryz.prog 233 soft.Dk.spec
theorem soft.Dk.Ac (hk:Ax Tryz.prog soft.Dk.A6) (h:∀ (x:Int),soft.Dk.pre [.i x]=true→A8 soft.Dk.E Tryz.f233 [.int .u64 x] (soft.Dk.out [.i x])):soft.Dk.Kn :=
  Ak (Az hk _ _ _) Tryz.func233 (by kernel_rfl) (by kernel_rfl) h
def soft.F7.A6:List (Nat × Entry):=[(206,soft.Split.spec)]
def soft.F7.E:Env:=A9 (A5 soft.F7.A6) (fun _=>false) (fun _=>none) (fun _=>none)
theorem soft.F7.ev (N:Nat) (x:Int):Bp soft.F7.E N Tryz.f211 (An Tryz.f211) [.int .u64 x]=bif (Af x) then bif ((Ll x)==(0:Int)) then some (.tup [.int .u64 (C0 x),.int .i64 (-1074:Int)]) else some (.tup [.int .u64 (H7 .u64 (C0 x) 4503599627370496),.int .i64 (Ab ((Ll x)-1075))]) else none:=by kernel_rfl
abbrev _root_.Go.Proofs.S1.soft.F7.Kn:=A3 Tryz.prog 211 soft.F7.spec
theorem soft.F7.Ac (hk:Ax Tryz.prog soft.F7.A6) (h:∀ (x:Int),soft.F7.pre [.i x]=true→A8 soft.F7.E Tryz.f211 [.int .u64 x] (soft.F7.out [.i x])):soft.F7.Kn :=
  Ak (Az hk _ _ _) Tryz.func211 (by kernel_rfl) (by kernel_rfl) h
def soft.Pack.A6:List (Nat × Entry):=[(233,soft.Dk.spec)]
def soft.Pack.E (rk:Nat):Env:=A9 (A5 ((239,Aj4 [.b,.i .u64,.i .i64] soft.Pack.pre soft.Pack.out soft.Pack.mu rk)::soft.Pack.A6)) (fun _=>false) (fun _=>none) (fun _=>none)
theorem soft.Pack.ev (N rk:Nat) (n:Bool) (m e:Int):Bp (soft.Pack.E rk) N Tryz.f239 (An Tryz.f239) [.bool n,.int .u64 m,.int .i64 e]=bif (m==(0:Int)) then bif n then bif (Af 0) then some (.int .u64 (C5 0)) else none else some (.int .u64 0) else bif (Ee 9007199254740992 m) then bif ((Ky (De .u64 m 1) (Ab (e+1)))&&(Cu ((Pa (De .u64 m 1) (Ab (e+1)))<rk))) then some (.int .u64 (T1 n (De .u64 m 1) (Ab (e+1)))) else none else bif ((A4 m 4503599627370496)&&(A4 (-1074:Int) e)) then bif ((Ky (B2 .u64 m 1) (Ab (e-1)))&&(Cu ((Pa (B2 .u64 m 1) (Ab (e-1)))<rk))) then some (.int .u64 (T1 n (B2 .u64 m 1) (Ab (e-1)))) else none else bif (A4 m 4503599627370496) then bif n then bif (Af m) then some (.int .u64 (C5 m)) else none else some (.int .u64 m) else bif (Ee 2047 (Ab (e+1075))) then bif n then bif (Af 9218868437227405312) then some (.int .u64 (C5 9218868437227405312)) else none else some (.int .u64 9218868437227405312) else bif n then bif (Af (H7 .u64 (B2 .u64 (Bj (Ab (e+1075))) 52) (Et .u64 m 4503599627370495))) then some (.int .u64 (C5 (H7 .u64 (B2 .u64 (Bj (Ab (e+1075))) 52) (Et .u64 m 4503599627370495)))) else none else some (.int .u64 (H7 .u64 (B2 .u64 (Bj (Ab (e+1075))) 52) (Et .u64 m 4503599627370495))) :=
  Eq.trans (by kernel_rfl)
  (Ej rfl (Ej rfl (Aw (O1 (A4 m 4503599627370496)) (Aw (Lv (A4 m 4503599627370496)) (Aw (Ti (A4 m 4503599627370496)) (C2 (tt1 (A4 m 4503599627370496) (A4 (-1074:Int) e)) rfl rfl))))))
theorem soft.Pack.Ac (hk:Ax Tryz.prog soft.Pack.A6) (h:∀ (rk:Nat) (n:Bool) (m e:Int),soft.Pack.pre [.b n,.i m,.i e]=true→soft.Pack.mu [.b n,.i m,.i e]<rk+1→∃ N dv drops,Bp (soft.Pack.E rk) N Tryz.f239 (An Tryz.f239) [.bool n,.int .u64 m,.int .i64 e]=some dv∧Wk drops dv (soft.Pack.out [.b n,.i m,.i e])):A3 Tryz.prog 239 soft.Pack.spec:=by
  have call:=S8 (f:=239) Tryz.func239 (by kernel_rfl) (show Tryz.f239.body=some (An Tryz.f239) by kernel_rfl)
  refine ⟨Ag7 (E:=soft.Pack.E) Tryz.func239 (show Tryz.f239.body=some (An Tryz.f239) by kernel_rfl) soft.Pack.mu (fun rk hm=>Az (.cons ⟨hm,call⟩ hk) _ _ _) fun rk ats dvs he hp hr=>?_,call⟩
  obtain ⟨n,_,_,rfl,rfl,he0⟩:=he.Avo
  obtain ⟨m,_,_,rfl,rfl,he1⟩:=he0.An5
  obtain ⟨e,_,_,rfl,rfl,he2⟩:=he1.An5
  obtain ⟨rfl,rfl⟩:=he2.Acl
  exact h rk n m e hp hr
abbrev _root_.Go.Proofs.S1.soft.Pack.Kn:Prop:=A3 Tryz.prog 239 soft.Pack.spec
def soft.Dd.hint:Nat→Option Ba
  | 0=>some { keep:=[0,1,2,3,10],objs:=[],boxes:=[] }
  | _=>none
def soft.Dd.A6:List (Nat × Entry):=[(155,soft.Kind.spec),(239,soft.Pack.spec)]
def soft.Dd.live:Nat→Option (List Nat)
  | 7=>some [0,1,2,3,10]
  | 12=>some [0,2,3,10,11,12,13,14]
  | 14=>some [0,2,10,11,14]
  | 16=>some [0,2,10,11,14]
  | 18=>some [14,15,16]
  | _=>none
def soft.Dd.E:Env:=A9 (A5 soft.Dd.A6) (fun _=>false) soft.Dd.hint soft.Dd.live
def soft.Dd.L0 (N M:Nat) (n:Bool) (m e:Int) (r:Bool) (p10:Int):Option DV:=Bz soft.Dd.E N Tryz.f212 (An Tryz.f212) [1,1,1,0,0] [] M ⟨Gl 111 [(0,.bool n),(1,.int .u64 m),(2,.int .i64 e),(3,.bool r),(10,.int .i64 p10)],[]⟩
def soft.Dd.C7 (N:Nat) (n:Bool) (m e:Int) (r:Bool) (p10_1:Int):Option DV:=cutAt soft.Dd.E N Tryz.f212 (An Tryz.f212) [1,1,1,1] [] ⟨Gl 111 [(0,.bool n),(1,.int .u64 m),(2,.int .i64 e),(3,.bool r),(10,.int .i64 p10_1)],[]⟩
def soft.Dd.C12 (N:Nat) (n:Bool) (e:Int) (r:Bool) (p10_2 p11_1:Int) (p12 p13:Int) (p14:Bool):Option DV:=cutAt soft.Dd.E N Tryz.f212 (An Tryz.f212) [1,1,1,1,1,1,1,1,0] [] ⟨Gl 111 [(0,.bool n),(2,.int .i64 e),(3,.bool r),(10,.int .i64 p10_2),(11,.int .u64 p11_1),(12,.int .u64 p12),(13,.int .u64 p13),(14,.bool p14)],[]⟩
def soft.Dd.C14 (N:Nat) (n:Bool) (e p10_3 p11_2:Int) (p14_1:Bool):Option DV:=cutAt soft.Dd.E N Tryz.f212 (An Tryz.f212) [1,1,1,1,1,1,1,1,1,0] [] ⟨Gl 111 [(0,.bool n),(2,.int .i64 e),(10,.int .i64 p10_3),(11,.int .u64 p11_2),(14,.bool p14_1)],[]⟩
def soft.Dd.C16 (N:Nat) (n:Bool) (e p11 p10_4:Int) (p14_2:Bool):Option DV:=cutAt soft.Dd.E N Tryz.f212 (An Tryz.f212) [1,1,1,1,1,1,1,1,1,1] [] ⟨Gl 111 [(0,.bool n),(2,.int .i64 e),(10,.int .i64 p10_4),(11,.int .u64 p11),(14,.bool p14_2)],[]⟩
def soft.Dd.C18 (N:Nat) (p14_3:Bool) (p15:Int):Option DV:=cutAt soft.Dd.E N Tryz.f212 (An Tryz.f212) [1,1,1,1,1,1,1,1,1,1,1,1,0] [] ⟨Gl 111 [(14,.bool p14_3),(15,.int .u64 p15),(16,.int .u8 0)],[]⟩
theorem soft.Dd.Au (N M:Nat) (n:Bool) (m e:Int) (r:Bool) (p10:Int):soft.Dd.L0 N (M+1) n m e r p10=bif (decide (0≤p10)) then bif ((Ee 9007199254740992 (De .u64 m p10))||(A4 (Ab (e+p10)) (-1074:Int))) then bif ((Ab (p10+1))==(63:Int)) then soft.Dd.C7 N n m e r (Ab (p10+1)) else soft.Dd.L0 N M n m e r (Ab (p10+1)) else soft.Dd.C7 N n m e r p10 else none :=
  Eq.trans (by kernel_rfl)
  (Ej (Aw (R7 (Ee 9007199254740992 (De .u64 m p10))) (Aw (R7 (Ee 9007199254740992 (De .u64 m p10))) (Aw (tt8 (Ee 9007199254740992 (De .u64 m p10))) (Aw (P2 (Ee 9007199254740992 (De .u64 m p10))) (Aw (Wt (Ee 9007199254740992 (De .u64 m p10))) (C2 (tt5 (Ee 9007199254740992 (De .u64 m p10)) (A4 (Ab (e+p10)) (-1074:Int))) rfl rfl)))))) rfl)
theorem soft.Dd.Avr (N:Nat) (n:Bool) (m e:Int) (r:Bool) (p10_1:Int):soft.Dd.C7 N n m e r p10_1=bif (decide (0≤p10_1)) then bif (decide (0≤p10_1)) then bif (A4 0 p10_1) then bif (decide (0≤(Ab (p10_1-1)))) then soft.Dd.C12 N n e r p10_1 (De .u64 m p10_1) (Et .u64 m (Bj ((B2 .u64 1 p10_1)-1))) (B2 .u64 1 (Ab (p10_1-1))) (bif ((Et .u64 m (Bj ((B2 .u64 1 p10_1)-1)))==(0:Int)) then (!r) else false) else none else soft.Dd.C12 N n e r p10_1 (De .u64 m p10_1) (Et .u64 m (Bj ((B2 .u64 1 p10_1)-1))) 0 (bif ((Et .u64 m (Bj ((B2 .u64 1 p10_1)-1)))==(0:Int)) then (!r) else false) else none else none :=
  Eq.trans ((Qu _ _ _ _ _ _ _).trans (by kernel_rfl))
  (C2 (Cs (decide (0≤p10_1))) (C2 (Cs (decide (0≤p10_1))) (Ej (Ej (Aw (O1 ((Et .u64 m (Bj ((B2 .u64 1 p10_1)-1)))==(0:Int))) (Aw (Lv ((Et .u64 m (Bj ((B2 .u64 1 p10_1)-1)))==(0:Int))) (Aw (Ti ((Et .u64 m (Bj ((B2 .u64 1 p10_1)-1)))==(0:Int))) rfl))) rfl) (Aw (O1 ((Et .u64 m (Bj ((B2 .u64 1 p10_1)-1)))==(0:Int))) (Aw (Lv ((Et .u64 m (Bj ((B2 .u64 1 p10_1)-1)))==(0:Int))) (Aw (Ti ((Et .u64 m (Bj ((B2 .u64 1 p10_1)-1)))==(0:Int))) rfl)))) rfl) rfl)
theorem soft.Dd.Atx (N:Nat) (n:Bool) (e:Int) (r:Bool) (p10_2 p11_1:Int) (p12 p13:Int) (p14:Bool):soft.Dd.C12 N n e r p10_2 p11_1 p12 p13 p14=bif ((A4 0 p10_2)&&((A4 p13 p12)||((p12==p13)&&(r||((Et .u64 p11_1 1)==(1:Int)))))) then soft.Dd.C14 N n e p10_2 (Bj (p11_1+1)) p14 else soft.Dd.C14 N n e p10_2 p11_1 p14 :=
  Eq.trans ((Qu _ _ _ _ _ _ _).trans (by kernel_rfl))
  (Aw (O1 (A4 0 p10_2)) (Aw (O1 (A4 0 p10_2)) (Aw (Abu (A4 0 p10_2)) (Aw (Lv (A4 0 p10_2)) (Aw (Au5 (A4 0 p10_2) (A4 p13 p12)) (Aw (Au5 (A4 0 p10_2) (A4 p13 p12)) (Aw (Aw4 (A4 0 p10_2) (A4 p13 p12)) (Aw (Aw5 (A4 0 p10_2) (A4 p13 p12)) (Aw (Aw6 (A4 0 p10_2) (A4 p13 p12) (p12==p13)) (Aw (Aw7 (A4 0 p10_2) (A4 p13 p12) (p12==p13)) (Aw (Aw8 (A4 0 p10_2) (A4 p13 p12) (p12==p13) r) (Aw (Au6 (A4 0 p10_2) (A4 p13 p12) (p12==p13) r) (Aw (Au6 (A4 0 p10_2) (A4 p13 p12) (p12==p13) r) (Aw (Aw9 (A4 0 p10_2) (A4 p13 p12) (p12==p13) r) (Aw (Axa (A4 0 p10_2) (A4 p13 p12) (p12==p13)) (Aw (Axb (A4 0 p10_2) (A4 p13 p12)) (Aw (Ti (A4 0 p10_2)) (C2 (Axc (A4 0 p10_2) (A4 p13 p12) (p12==p13) r ((Et .u64 p11_1 1)==(1:Int))) rfl rfl))))))))))))))))))
theorem soft.Dd.Atw (N:Nat) (n:Bool) (e p10_3 p11_2:Int) (p14_1:Bool):soft.Dd.C14 N n e p10_3 p11_2 p14_1=bif (A4 (Ab (e+p10_3)) (-1074:Int)) then soft.Dd.C16 N n e 0 p10_3 p14_1 else soft.Dd.C16 N n e p11_2 p10_3 p14_1:=(Qu _ _ _ _ _ _ _).trans (by kernel_rfl)
theorem soft.Dd.Atv (N:Nat) (n:Bool) (e p11 p10_4:Int) (p14_2:Bool):soft.Dd.C16 N n e p11 p10_4 p14_2=bif (Ky p11 (max (Ab (e+p10_4)) (-1074:Int))) then soft.Dd.C18 N p14_2 (T1 n p11 (max (Ab (e+p10_4)) (-1074:Int))) else none:=(Qu _ _ _ _ _ _ _).trans (by kernel_rfl)
theorem soft.Dd.Att (N:Nat) (p14_3:Bool) (p15:Int):soft.Dd.C18 N p14_3 p15=bif ((!p14_3)||((Gm .u64 p15 9223372036854775808)==(9218868437227405312:Int))) then bif (Af p15) then bif ((Bd p15)==(3:Int)) then some (.tup [.int .u64 p15,.int .u8 5]) else bif ((Bd p15)==(0:Int)) then bif ((Bd p15)==(0:Int)) then some (.tup [.int .u64 p15,.int .u8 3]) else some (.tup [.int .u64 p15,.int .u8 1]) else bif ((Bd p15)==(1:Int)) then some (.tup [.int .u64 p15,.int .u8 3]) else some (.tup [.int .u64 p15,.int .u8 1]) else none else some (.tup [.int .u64 p15,.int .u8 0]) :=
  Eq.trans ((Qu _ _ _ _ _ _ _).trans (by kernel_rfl))
  (Aw (Abr p14_3) (Aw (R0 p14_3) (Aw (R0 p14_3) (Aw (Abt p14_3) (C2 (Asm p14_3 ((Gm .u64 p15 9223372036854775808)==(9218868437227405312:Int))) rfl rfl)))))
theorem soft.Dd.ev (N:Nat) (n:Bool) (m e:Int) (r:Bool):Bp soft.Dd.E N Tryz.f212 (An Tryz.f212) [.bool n,.int .u64 m,.int .i64 e,.bool r]=bif ((m==(0:Int))&&(!r)) then bif (Ky 0 (-1074:Int)) then some (.tup [.int .u64 (T1 n 0 (-1074:Int)),.int .u8 0]) else none else soft.Dd.L0 N N n m e r 0 :=
  Eq.trans (by kernel_rfl)
  (Aw (O1 (m==(0:Int))) (Aw (Lv (m==(0:Int))) (Aw (Ti (m==(0:Int))) (C2 (Aw3 (m==(0:Int)) r) rfl rfl))))
abbrev _root_.Go.Proofs.S1.soft.Dd.Kn:=A3 Tryz.prog 212 soft.Dd.spec
theorem soft.Dd.Ac (hk:Ax Tryz.prog soft.Dd.A6) (h:∀ (n:Bool) (m e:Int) (r:Bool),soft.Dd.pre [.b n,.i m,.i e,.b r]=true→A8 soft.Dd.E Tryz.f212 [.bool n,.int .u64 m,.int .i64 e,.bool r] (soft.Dd.out [.b n,.i m,.i e,.b r])):soft.Dd.Kn :=
  Ak (Az hk _ _ _) Tryz.func212 (by kernel_rfl) (by kernel_rfl) h
end EqSoft
theorem Ad {a b:Bool}:(a&&b)=true↔a=true∧b=true:=by simp
theorem Ain {n:Nat} (hn:n<2^64):((De .u64 (n:Int) (63:Int))==(1:Int))=Dp n:=by
  rw [show (63:Int)=((63:Nat):Int) from rfl,Ht .u64 n 63 (by decide)]
  unfold Dp Bs
  rw [Axv,Ax9]
  simp only [beq_iff_eq,Ax0]
  omega
theorem Ap8 {n:Nat} (hn:n<2^64):Ab (Et .u64 (De .u64 (n:Int) (52:Int)) (2047:Int))=Ll n:=by
  rw [show (52:Int)=((52:Nat):Int) from rfl,Ht .u64 n 52 (by decide),show (2047:Int)=((2^11-1:Nat):Int) from rfl,I2 11 (by omega) (by decide)]
  unfold Ll Dv
  rw [Axv,Am (by omega) (by omega)]
theorem An9 {n:Nat} (hn:n<2^64):Et .u64 (n:Int) (4503599627370495:Int)=C0 n:=by
  rw [show (4503599627370495:Int)=((2^52-1:Nat):Int) from rfl,I2 52 hn (by decide)]
  unfold C0 C4
  rw [Axv]
theorem soft.Split.known:soft.Split.Kn:=EqSoft.soft.Split.Ac .nil fun x hp=>by
  obtain ⟨n,rfl,hn⟩:=Bl (x:=x) hp
  refine ⟨0,soft.Split.out [.i n],[],?_,Wk.G6 (.cons .bool (.cons .int (.cons .int .nil)))⟩
  rw [EqSoft.soft.Split.ev,Ain hn,Ap8 hn,An9 hn]
  rfl
theorem soft.Kind.known:soft.Kind.Kn:=EqSoft.soft.Kind.Ac (.cons soft.Split.known .nil) fun x hp=>by
  obtain ⟨n,rfl,hn⟩:=Bl (x:=x) hp
  refine ⟨0,soft.Kind.out [.i n],[],?_,.int⟩
  rw [EqSoft.soft.Kind.ev,B9 hn]
  show _=some (DV.int .i64 (Bd n))
  unfold Bd Al Ll C0
  simp only [Axv,Axt,As]
  have:=Jb n
  by_cases h1:Dv n=2047
  · by_cases h2:C4 n=0
    · simp [h1,h2]
    · have:((C4 n:Int)==0)=false:=by simp; exact h2
      simp [h1,this,h2]
  · have h1':((Dv n:Int)==2047)=false:=by simp; omega
    rw [h1']
    by_cases h3:0<Dv n
    · simp [h1,h3]
    · by_cases h4:0<C4 n
      · simp [h1,h3,h4]
      · simp [h1,h3,h4]
theorem soft.Sign.known:soft.Sign.Kn:=EqSoft.soft.Sign.Ac .nil fun x hp=>by
  obtain ⟨n,rfl,hn⟩:=Bl (x:=x) hp
  refine ⟨0,soft.Sign.out [.i n],[],?_,.bool⟩
  rw [EqSoft.soft.Sign.ev,Ain hn]
  rfl
theorem Yu (n:Nat):J4 n=!(decide (Al n=3)||decide (Al n=4)):=by
  have:=Jb n
  unfold J4 Al
  by_cases h1:Dv n=2047
  · by_cases h2:C4 n=0<;>simp [h1,h2]
  · have:Dv n<2047:=by omega
    by_cases h3:0<Dv n
    · simp [h1,h3,this]
    · by_cases h4:0<C4 n<;>simp [h1,h3,h4,this]
theorem soft.Finite.known:soft.Finite.Kn:=EqSoft.soft.Finite.Ac (.cons soft.Kind.known .nil) fun x hp=>by
  obtain ⟨n,rfl,hn⟩:=Bl (x:=x) hp
  refine ⟨0,soft.Finite.out [.i n],[],?_,.bool⟩
  rw [EqSoft.soft.Finite.ev,B9 hn]
  show _=some (DV.bool (Cq n))
  unfold Cq Bd
  rw [Axv,Yu]
  by_cases h3:Al n=3
  · simp [h3]
  · by_cases h4:Al n=4
    · simp [h4]
    · have e3:((Al n:Int)==3)=false:=by simp; omega
      have e4:((Al n:Int)==4)=false:=by simp; omega
      simp [h3,h4,e3,e4]
theorem Akp {n:Nat} (hn:n<2^64):Arl .u64 (n:Int) (9223372036854775808:Int)=C5 n:=by
  rw [show (9223372036854775808:Int)=((2^63:Nat):Int) from rfl,Ao1 hn (by decide),Apf hn]
  unfold C5 Hf
  rw [Axv]
theorem soft.Dk.known:soft.Dk.Kn:=EqSoft.soft.Dk.Ac .nil fun x hp=>by
  obtain ⟨n,rfl,hn⟩:=Bl (x:=x) hp
  refine ⟨0,soft.Dk.out [.i n],[],?_,.int⟩
  rw [EqSoft.soft.Dk.ev,Akp hn]
  rfl
theorem soft.F7.known:soft.F7.Kn:=EqSoft.soft.F7.Ac (.cons soft.Split.known .nil) fun x hp=>by
  obtain ⟨n,rfl,hn⟩:=Bl (x:=x) hp
  refine ⟨0,soft.F7.out [.i n],[],?_,Wk.Gw (.cons .int (.cons .int .nil))⟩
  rw [EqSoft.soft.F7.ev,B9 hn]
  show _=some (DV.tup [.int .u64 (Bt n),.int .i64 (Bh n)])
  have hf:=J2 n
  have hp:=Jb n
  unfold Bt Bh Ll C0 Av A2
  rw [Axv]
  by_cases h:Dv n=0
  · simp [h]
  · have e:((Dv n:Int)==0)=false:=by simp; omega
    have e2:H7 .u64 ((C4 n:Nat):Int) (4503599627370496:Int)=((C4 n+2^52:Nat):Int):=by
      rw [show (4503599627370496:Int)=((1*2^52:Nat):Int) from rfl,Alh (by omega) (by omega)]
      congr 1; omega
    rw [e,e2,Am (by omega) (by omega)]
    simp [h]
namespace EqRefD
def A1.Neg.A6:List (Nat × Entry):=[]
def A1.Neg.E:Env:=A9 (A5 A1.Neg.A6) (fun _=>false) (fun _=>none) (fun _=>none)
theorem A1.Neg.ev (N:Nat) (x:Int):Bp A1.Neg.E N Tryz.f142 (An Tryz.f142) [.int .u64 x]=some (.bool ((Bj (Int.tdiv x 9223372036854775808))==(1:Int))):=by kernel_rfl
abbrev _root_.Go.Proofs.S1.A1.Neg.Kn:=A3 Tryz.prog 142 A1.Neg.spec
theorem A1.Neg.Ac (hk:Ax Tryz.prog A1.Neg.A6) (h:∀ (x:Int),A1.Neg.pre [.i x]=true→A8 A1.Neg.E Tryz.f142 [.int .u64 x] (A1.Neg.out [.i x])):A1.Neg.Kn :=
  Ak (Az hk _ _ _) Tryz.func142 (by kernel_rfl) (by kernel_rfl) h
def A1.Power.A6:List (Nat × Entry):=[]
def A1.Power.E:Env:=A9 (A5 A1.Power.A6) (fun _=>false) (fun _=>none) (fun _=>none)
theorem A1.Power.ev (N:Nat) (x:Int):Bp A1.Power.E N Tryz.f140 (An Tryz.f140) [.int .u64 x]=some (.int .i64 (Ab (Bj (Int.tdiv (Int.tmod x 9223372036854775808) 4503599627370496)))):=by kernel_rfl
abbrev _root_.Go.Proofs.S1.A1.Power.Kn:=A3 Tryz.prog 140 A1.Power.spec
theorem A1.Power.Ac (hk:Ax Tryz.prog A1.Power.A6) (h:∀ (x:Int),A1.Power.pre [.i x]=true→A8 A1.Power.E Tryz.f140 [.int .u64 x] (A1.Power.out [.i x])):A1.Power.Kn :=
  Ak (Az hk _ _ _) Tryz.func140 (by kernel_rfl) (by kernel_rfl) h
def A1.Li.A6:List (Nat × Entry):=[]
def A1.Li.E:Env:=A9 (A5 A1.Li.A6) (fun _=>false) (fun _=>none) (fun _=>none)
theorem A1.Li.ev (N:Nat) (x:Int):Bp A1.Li.E N Tryz.f141 (An Tryz.f141) [.int .u64 x]=some (.int .u64 (Int.tmod x 4503599627370496)):=by kernel_rfl
abbrev _root_.Go.Proofs.S1.A1.Li.Kn:=A3 Tryz.prog 141 A1.Li.spec
theorem A1.Li.Ac (hk:Ax Tryz.prog A1.Li.A6) (h:∀ (x:Int),A1.Li.pre [.i x]=true→A8 A1.Li.E Tryz.f141 [.int .u64 x] (A1.Li.out [.i x])):A1.Li.Kn :=
  Ak (Az hk _ _ _) Tryz.func141 (by kernel_rfl) (by kernel_rfl) h
def A1.Kind.A6:List (Nat × Entry):=[(141,A1.Li.spec),(140,A1.Power.spec)]
def A1.Kind.E:Env:=A9 (A5 A1.Kind.A6) (fun _=>false) (fun _=>none) (fun _=>none)
theorem A1.Kind.ev (N:Nat) (x:Int):Bp A1.Kind.E N Tryz.f62 (An Tryz.f62) [.int .u64 x]=bif (Kl x) then bif ((Ll x)==(2047:Int)) then bif (Kl x) then bif ((C0 x)==(0:Int)) then some (.int .i64 3) else some (.int .i64 4) else none else bif (Kl x) then bif (A4 0 (Ll x)) then some (.int .i64 2) else bif (Kl x) then bif (A4 0 (C0 x)) then some (.int .i64 1) else some (.int .i64 0) else none else none else none:=by kernel_rfl
abbrev _root_.Go.Proofs.S1.A1.Kind.Kn:=A3 Tryz.prog 62 A1.Kind.spec
theorem A1.Kind.Ac (hk:Ax Tryz.prog A1.Kind.A6) (h:∀ (x:Int),A1.Kind.pre [.i x]=true→A8 A1.Kind.E Tryz.f62 [.int .u64 x] (A1.Kind.out [.i x])):A1.Kind.Kn :=
  Ak (Az hk _ _ _) Tryz.func62 (by kernel_rfl) (by kernel_rfl) h
def A1.Finite.A6:List (Nat × Entry):=[(140,A1.Power.spec)]
def A1.Finite.E:Env:=A9 (A5 A1.Finite.A6) (fun _=>false) (fun _=>none) (fun _=>none)
theorem A1.Finite.ev (N:Nat) (x:Int):Bp A1.Finite.E N Tryz.f131 (An Tryz.f131) [.int .u64 x]=bif (Kl x) then some (.bool (A4 (Ll x) 2047)) else none:=by kernel_rfl
abbrev _root_.Go.Proofs.S1.A1.Finite.Kn:=A3 Tryz.prog 131 A1.Finite.spec
theorem A1.Finite.Ac (hk:Ax Tryz.prog A1.Finite.A6) (h:∀ (x:Int),A1.Finite.pre [.i x]=true→A8 A1.Finite.E Tryz.f131 [.int .u64 x] (A1.Finite.out [.i x])):A1.Finite.Kn :=
  Ak (Az hk _ _ _) Tryz.func131 (by kernel_rfl) (by kernel_rfl) h
def A1.Dk.A6:List (Nat × Entry):=[(142,A1.Neg.spec)]
def A1.Dk.E:Env:=A9 (A5 A1.Dk.A6) (fun _=>false) (fun _=>none) (fun _=>none)
theorem A1.Dk.ev (N:Nat) (x:Int):Bp A1.Dk.E N Tryz.f163 (An Tryz.f163) [.int .u64 x]=bif (Af x) then bif (Dp x) then some (.int .u64 (Bj (x-9223372036854775808))) else some (.int .u64 (Bj (x+9223372036854775808))) else none:=by kernel_rfl
abbrev _root_.Go.Proofs.S1.A1.Dk.Kn:=A3 Tryz.prog 163 A1.Dk.spec
theorem A1.Dk.Ac (hk:Ax Tryz.prog A1.Dk.A6) (h:∀ (x:Int),A1.Dk.pre [.i x]=true→A8 A1.Dk.E Tryz.f163 [.int .u64 x] (A1.Dk.out [.i x])):A1.Dk.Kn :=
  Ak (Az hk _ _ _) Tryz.func163 (by kernel_rfl) (by kernel_rfl) h
def Ey.Canon.A6:List (Nat × Entry):=[(62,A1.Kind.spec)]
def Ey.Canon.E:Env:=A9 (A5 Ey.Canon.A6) (fun _=>false) (fun _=>none) (fun _=>none)
theorem Ey.Canon.ev (N:Nat) (x:Int):Bp Ey.Canon.E N Tryz.f168 (An Tryz.f168) [.int .u64 x]=bif (Kl x) then bif ((Bd x)==(4:Int)) then some (.int .u64 9221120237041090560) else some (.int .u64 x) else none:=by kernel_rfl
abbrev _root_.Go.Proofs.S1.Ey.Canon.Kn:=A3 Tryz.prog 168 Ey.Canon.spec
theorem Ey.Canon.Ac (hk:Ax Tryz.prog Ey.Canon.A6) (h:∀ (x:Int),Ey.Canon.pre [.i x]=true→A8 Ey.Canon.E Tryz.f168 [.int .u64 x] (Ey.Canon.out [.i x])):Ey.Canon.Kn :=
  Ak (Az hk _ _ _) Tryz.func168 (by kernel_rfl) (by kernel_rfl) h
abbrev _root_.Go.Proofs.S1.Ey.Canon.nb.Kn:Prop:=A3 Tryz.prog 168 Ey.Canon.nb.spec
end EqRefD
open EqRefD
theorem Jx (n m:Nat):Int.tdiv (n:Int) (m:Int)=((n / m:Nat):Int):=rfl
theorem Jw (n m:Nat):Int.tmod (n:Int) (m:Int)=((n%m:Nat):Int):=rfl
theorem Ar2:(9223372036854775808:Int)=((2^63:Nat):Int):=rfl
theorem Ar3:(4503599627370496:Int)=((2^52:Nat):Int):=rfl
theorem A1.Neg.known:A1.Neg.Kn:=A1.Neg.Ac .nil fun x hp=>by
  obtain ⟨n,rfl,hn⟩:=Bl (x:=x) hp
  refine ⟨0,A1.Neg.out [.i n],[],?_,.bool⟩
  rw [A1.Neg.ev,Ar2,Jx,Di (by omega) (by omega)]
  show _=some (DV.bool (Dp n))
  unfold Dp Bs
  rw [Axv]
  congr 2
  rw [Ax9]
  simp only [beq_iff_eq,Ax0]
  omega
theorem A1.Power.known:A1.Power.Kn:=A1.Power.Ac .nil fun x hp=>by
  obtain ⟨n,rfl⟩:=Ua (x:=x) hp
  refine ⟨0,A1.Power.out [.i n],[],?_,.int⟩
  rw [A1.Power.ev,Ar2,Ar3,Jw,Jx,Di (by omega) (by omega),Am (by omega) (by omega)]
  show _=some (DV.int .i64 (Ll n))
  unfold Ll Dv
  rw [Axv]
  congr 2
  have:n%2^63 / 2^52=n / 2^52%2048:=by omega
  rw [this]
theorem A1.Li.known:A1.Li.Kn:=A1.Li.Ac .nil fun x hp=>by
  obtain ⟨n,rfl⟩:=Ua (x:=x) hp
  refine ⟨0,A1.Li.out [.i n],[],?_,.int⟩
  rw [A1.Li.ev,Ar3,Jw]
  rfl
theorem A1.Kind.known:A1.Kind.Kn:=A1.Kind.Ac (.cons A1.Li.known (.cons A1.Power.known .nil)) fun x hp=>by
  obtain ⟨n,rfl⟩:=Ua (x:=x) hp
  refine ⟨0,A1.Kind.out [.i n],[],?_,.int⟩
  rw [A1.Kind.ev,Io]
  show _=some (DV.int .i64 (Bd n))
  unfold Bd Al Ll C0
  simp only [Axv,Axt,As]
  have:=Jb n
  by_cases h1:Dv n=2047
  · by_cases h2:C4 n=0
    · simp [h1,h2]
    · have:((C4 n:Int)==0)=false:=by simp; exact h2
      simp [h1,this,h2]
  · have h1':((Dv n:Int)==2047)=false:=by simp; omega
    rw [h1']
    by_cases h3:0<Dv n
    · simp [h1,h3]
    · by_cases h4:0<C4 n
      · simp [h1,h3,h4]
      · simp [h1,h3,h4]
theorem A1.Finite.known:A1.Finite.Kn:=A1.Finite.Ac (.cons A1.Power.known .nil) fun x hp=>by
  obtain ⟨n,rfl,hn⟩:=Bl (x:=x) hp
  refine ⟨0,A1.Finite.out [.i n],[],?_,.bool⟩
  rw [A1.Finite.ev,Io,Axt,As]
  show _=some (DV.bool (Cq n))
  unfold Cq J4 Ll
  rw [Axv]
  have:decide ((Dv n:Int)<2047)=decide (Dv n<2047):=decide_eq_decide.2 (by omega)
  rw [this]
theorem A1.Dk.known:A1.Dk.Kn:=A1.Dk.Ac (.cons A1.Neg.known .nil) fun x hp=>by
  obtain ⟨n,rfl,hn⟩:=Bl (x:=x) hp
  refine ⟨0,A1.Dk.out [.i n],[],?_,.int⟩
  rw [A1.Dk.ev,B9 hn,Axt]
  show _=some (DV.int .u64 (C5 n))
  unfold C5 Hf Dp Bs
  rw [Axv,N7,N7]
  by_cases h:2^63≤n
  · have e:((n:Int)-9223372036854775808)%18446744073709551616=((n-2^63:Nat):Int):=by omega
    rw [if_pos h,Axu h,Axt,e]
  · have e:((n:Int)+9223372036854775808)%18446744073709551616=((n+2^63:Nat):Int):=by omega
    rw [if_neg h,Axy h,Axx,e]
theorem Ey.Canon.known:Ey.Canon.Kn:=Ey.Canon.Ac (.cons A1.Kind.known .nil) fun x hp=>by
  obtain ⟨n,rfl⟩:=Ua (x:=x) hp
  refine ⟨0,Ey.Canon.out [.i n],[],?_,.int⟩
  rw [Ey.Canon.ev,Io,Axt]
  show _=some (DV.int .u64 (Zi n))
  unfold Zi Dt Bd
  rw [Axv]
  by_cases h:Al n=4
  · have:((Al n:Int)==4)=true:=by simp; omega
    rw [this,if_pos h]; rfl
  · have:((Al n:Int)==4)=false:=by simp; omega
    rw [this,if_neg h]; rfl
theorem Ak4 {n m:Nat} (h:P1 n m):Dt n=Dt m:=by
  rcases h with rfl | ⟨h1,h2⟩
  · rfl
  · unfold Fj at h1 h2
    rw [Ye n] at h1
    rw [Ye m] at h2
    unfold Dt
    rw [if_pos (of_decide_eq_true h1),if_pos (of_decide_eq_true h2)]
theorem Aqf {c:Ctx} {w:World} {d:DV} {vs:List Value} (h:Bc c w [d] vs):∃ v,vs=[v]∧Ao c w d v:=by
  simp only [Bc] at h
  obtain ⟨u,us,rfl,hv,rfl⟩:=h
  exact ⟨u,rfl,hv⟩
theorem Ey.Canon.Ana:Ey.Canon.nb.Kn:=by
  refine ⟨fun args ha=>?_,Ey.Canon.known.call⟩
  unfold Ey.Canon.nb.spec entry at ha ⊢
  simp only at ha ⊢
  cases hd:Mc [.nb] args with
  | none=>rw [hd] at ha; cases ha
  | some bs =>
    rw [hd] at ha
    obtain ⟨ds,h1,h2⟩:=Mb hd
    obtain ⟨x,_,_,rfl,rfl,he⟩:=h1.As7
    obtain ⟨rfl,rfl⟩:=he.Acl
    refine N5.args (args:=[.nb x]) ?_ h2
    intro w vals I hI hl
    obtain ⟨v,hv,hr⟩:=Aqf hl
    simp only [Ao] at hr
    obtain ⟨m,rfl,hm⟩:=hr
    have e:Ey.Canon.nb.out [.f x]=Ey.Canon.spec.out [.int .u64 (m:Int)]:=by
      show DV.int .u64 (Ft x)=DV.int .u64 (Zi (m:Int))
      unfold Ft Zi
      rw [Axv,Ak4 hm]
    show Calls _ _ _ _ fun e' w'=>∃ v own,e'=.returned v∧Go.RowKit.Below w.heap.size w w'∧Aje own w w'∧Ao (Ds I own w w') w' (Ey.Canon.nb.out [.f x]) v
    rw [e]
    exact Ey.Canon.known.meets [.int .u64 (m:Int)] (Io m) w vals I hI (by rw [hv]; exact ⟨_,_,rfl,rfl,rfl⟩)
namespace EqRefA
def Ah.Jr.A6:List (Nat × Entry):=[]
def Ah.Jr.E:Env:=A9 (A5 Ah.Jr.A6) (fun _=>false) (fun _=>none) (fun _=>none)
theorem Ah.Jr.ev (N:Nat) (l:List Int) (i:Int):Bp Ah.Jr.E N Tryz.f221 (An Tryz.f221) [.ints .arg .u32 l,.int .i64 i]=bif ((Ee 0 i)&&(A4 i (List.length l:Int))) then bif ((decide (0≤i))&&(decide (i<(List.length l:Int)))) then some (.int .u64 (Bj (List.getD l (Int.toNat i) 0))) else none else some (.int .u64 0) :=
  Eq.trans (by kernel_rfl)
  (Aw (O1 (Ee 0 i)) (Aw (O1 (Ee 0 i)) (Aw (Lv (Ee 0 i)) (Aw (Abu (Ee 0 i)) (Aw (Ti (Ee 0 i)) (C2 (tt1 (Ee 0 i) (A4 i (List.length l:Int))) rfl rfl))))))
abbrev _root_.Go.Proofs.S1.Ah.Jr.Kn:=A3 Tryz.prog 221 Ah.Jr.spec
theorem Ah.Jr.Ac (hk:Ax Tryz.prog Ah.Jr.A6) (h:∀ (l:List Int) (i:Int),Ah.Jr.pre [.l l,.i i]=true→A8 Ah.Jr.E Tryz.f221 [.ints .arg .u32 l,.int .i64 i] (Ah.Jr.out [.l l,.i i])):Ah.Jr.Kn :=
  Ak (Az hk _ _ _) Tryz.func221 (by kernel_rfl) (by kernel_rfl) h
def Ah.Made.hint:Nat→Option Ba
  | 0=>some { keep:=[0,1,4,5],objs:=[],boxes:=[4] }
  | _=>none
def Ah.Made.A6:List (Nat × Entry):=[]
def Ah.Made.E:Env:=A9 (A5 Ah.Made.A6) (fun _=>false) Ah.Made.hint (fun _=>none)
def Ah.Made.L0 (N M:Nat) (n:Bool) (l:List Int) (p5:Int):Option DV:=Bz Ah.Made.E N Tryz.f171 (An Tryz.f171) [1,1,0,0] [] M ⟨Gl 28 [(0,.bool n),(1,.ints .arg .u32 l),(4,.ptr 4 0 0),(5,.int .i64 p5)],[(4,false,.box [.bool false,.nil])]⟩
theorem Ah.Made.Au (N M:Nat) (n:Bool) (l:List Int) (p5:Int):Ah.Made.L0 N (M+1) n l p5=bif ((!(A4 0 p5))||((decide (0≤(Ab (p5-1))))&&(decide ((Ab (p5-1))<(List.length l:Int))))) then bif ((A4 0 p5)&&((List.getD l (Int.toNat (Ab (p5-1))) 0)==(0:Int))) then Ah.Made.L0 N M n l (Ab (p5-1)) else bif (p5==(0:Int)) then some (.agg [.bool false,.nil]) else bif ((decide ((0:Int)≤p5))&&(decide (p5≤(List.length l:Int)))) then some (.agg [.bool n,.ints .arg .u32 (List.take (Int.toNat p5) l)]) else none else none :=
  Eq.trans (by kernel_rfl)
  (Aw (O1 (A4 0 p5)) (Aw (O1 (A4 0 p5)) (Aw (Lv (A4 0 p5)) (C2 (Awo (A4 0 p5) (decide (0≤(Ab (p5-1)))) (decide ((Ab (p5-1))<(List.length l:Int)))) (Aw (Lv (A4 0 p5)) (Aw (Lv (A4 0 p5)) (Aw (Ti (A4 0 p5)) (C2 (tt1 (A4 0 p5) ((List.getD l (Int.toNat (Ab (p5-1))) 0)==(0:Int))) rfl (Ej rfl (C2 (Lk (decide ((0:Int)≤p5)) (decide (p5≤(List.length l:Int)))) rfl rfl)))))) rfl))))
theorem Ah.Made.ev (N:Nat) (n:Bool) (l:List Int):Bp Ah.Made.E N Tryz.f171 (An Tryz.f171) [.bool n,.ints .arg .u32 l] =
  Ah.Made.L0 N N n l (List.length l:Int):=by kernel_rfl
abbrev _root_.Go.Proofs.S1.Ah.Made.Kn:=A3 Tryz.prog 171 Ah.Made.spec
theorem Ah.Made.Ac (hk:Ax Tryz.prog Ah.Made.A6) (h:∀ (n:Bool) (l:List Int),Ah.Made.pre [.b n,.l l]=true→A8 Ah.Made.E Tryz.f171 [.bool n,.ints .arg .u32 l] (Ah.Made.out [.b n,.l l])):Ah.Made.Kn :=
  Ak (Az hk _ _ _) Tryz.func171 (by kernel_rfl) (by kernel_rfl) h
def Ah.Of.A6:List (Nat × Entry):=[(171,Ah.Made.spec)]
def Ah.Of.E:Env:=A9 (A5 Ah.Of.A6) (fun _=>false) (fun _=>none) (fun _=>none)
theorem Ah.Of.ev (N:Nat) (n:Int):Bp Ah.Of.E N Tryz.f115 (An Tryz.f115) [.int .i64 n]=bif (A4 n 0) then bif (Hp [(Ju (Int.tmod (Bj ((Bj (Ab (0-(Ab (n+1)))))+1)) 4294967296)),(Ju (Bj (Int.tdiv (Bj ((Bj (Ab (0-(Ab (n+1)))))+1)) 4294967296)))]) then some (.agg [.bool (Bi (wv true [(Ju (Int.tmod (Bj ((Bj (Ab (0-(Ab (n+1)))))+1)) 4294967296)),(Ju (Bj (Int.tdiv (Bj ((Bj (Ab (0-(Ab (n+1)))))+1)) 4294967296)))])),.ints .arg .u32 (Ap (wv true [(Ju (Int.tmod (Bj ((Bj (Ab (0-(Ab (n+1)))))+1)) 4294967296)),(Ju (Bj (Int.tdiv (Bj ((Bj (Ab (0-(Ab (n+1)))))+1)) 4294967296)))]))]) else none else bif (Hp [(Ju (Int.tmod n 4294967296)),(Ju (Ab (Int.tdiv n 4294967296)))]) then some (.agg [.bool (Bi (wv false [(Ju (Int.tmod n 4294967296)),(Ju (Ab (Int.tdiv n 4294967296)))])),.ints .arg .u32 (Ap (wv false [(Ju (Int.tmod n 4294967296)),(Ju (Ab (Int.tdiv n 4294967296)))]))]) else none:=by kernel_rfl
abbrev _root_.Go.Proofs.S1.Ah.Of.Kn:=A3 Tryz.prog 115 Ah.Of.spec
theorem Ah.Of.Ac (hk:Ax Tryz.prog Ah.Of.A6) (h:∀ (n:Int),Ah.Of.pre [.i n]=true→A8 Ah.Of.E Tryz.f115 [.int .i64 n] (Ah.Of.out [.i n])):Ah.Of.Kn :=
  Ak (Az hk _ _ _) Tryz.func115 (by kernel_rfl) (by kernel_rfl) h
def Ah.Iu.hint:Nat→Option Ba
  | 0=>some { keep:=[0,1,5],objs:=[],boxes:=[] }
  | _=>none
def Ah.Iu.A6:List (Nat × Entry):=[(221,Ah.Jr.spec)]
def Ah.Iu.E:Env:=A9 (A5 Ah.Iu.A6) (fun _=>false) Ah.Iu.hint (fun _=>none)
def Ah.Iu.L0 (N M:Nat) (a b:List Int) (p5:Int):Option DV:=Bz Ah.Iu.E N Tryz.f176 (An Tryz.f176) [1,0,1,0] [] M ⟨Gl 29 [(0,.ints .arg .u32 a),(1,.ints .arg .u32 b),(5,.int .i64 p5)],[]⟩
theorem Ah.Iu.Au (N M:Nat) (a b:List Int) (p5:Int):Ah.Iu.L0 N (M+1) a b p5=bif (Ee 0 p5) then bif (Hp a) then bif (Hp b) then bif (A4 (G2 a p5) (G2 b p5)) then some (.int .i64 (-1:Int)) else bif (Hp a) then bif (Hp b) then bif (A4 (G2 b p5) (G2 a p5)) then some (.int .i64 1) else Ah.Iu.L0 N M a b (Ab (p5-1)) else none else none else none else none else some (.int .i64 0):=by kernel_rfl
theorem Ah.Iu.ev (N:Nat) (a b:List Int):Bp Ah.Iu.E N Tryz.f176 (An Tryz.f176) [.ints .arg .u32 a,.ints .arg .u32 b] =
  Ah.Iu.L0 N N a b (max (List.length a:Int) (List.length b:Int)):=by kernel_rfl
abbrev _root_.Go.Proofs.S1.Ah.Iu.Kn:=A3 Tryz.prog 176 Ah.Iu.spec
theorem Ah.Iu.Ac (hk:Ax Tryz.prog Ah.Iu.A6) (h:∀ (a b:List Int),Ah.Iu.pre [.l a,.l b]=true→A8 Ah.Iu.E Tryz.f176 [.ints .arg .u32 a,.ints .arg .u32 b] (Ah.Iu.out [.l a,.l b])):Ah.Iu.Kn :=
  Ak (Az hk _ _ _) Tryz.func176 (by kernel_rfl) (by kernel_rfl) h
def Ah.plus.hint:Nat→Option Ba
  | 0=>some { keep:=[0,1,5,6,7],objs:=[(0,5,100005,.ints 173 .u32 [])],boxes:=[] }
  | _=>none
def Ah.plus.A6:List (Nat × Entry):=[(221,Ah.Jr.spec)]
def Ah.plus.E:Env:=A9 (A5 Ah.plus.A6) (fun _=>false) Ah.plus.hint (fun _=>none)
def Ah.plus.L0 (N M:Nat) (a b:List Int) (p6 p7:Int) (p5:List Int):Option DV:=Bz Ah.plus.E N Tryz.f174 (An Tryz.f174) [1,1,1,0,1,0] [] M ⟨Gl 37 [(0,.ints .arg .u32 a),(1,.ints .arg .u32 b),(5,.oref 100005),(6,.int .u64 p6),(7,.int .i64 p7)],[(100005,false,.ints 173 .u32 p5)]⟩
theorem Ah.plus.Au (N M:Nat) (a b:List Int) (p6 p7:Int) (p5:List Int):Ah.plus.L0 N (M+1) a b p6 p7 p5=bif (Ee p7 (max (List.length a:Int) (List.length b:Int))) then bif (Hp a) then bif (Hp b) then bif (decide ((List.length p5)+1≤Gp)) then Ah.plus.L0 N M a b (Bj (Int.tdiv (Bj ((Bj ((G2 a p7)+(G2 b p7)))+p6)) 4294967296)) (Ab (p7+1)) (p5++[(Ju (Int.tmod (Bj ((Bj ((G2 a p7)+(G2 b p7)))+p6)) 4294967296))]) else none else none else none else some (.ints (.own 100005 173) .u32 p5):=by kernel_rfl
theorem Ah.plus.ev (N:Nat) (a b:List Int):Bp Ah.plus.E N Tryz.f174 (An Tryz.f174) [.ints .arg .u32 a,.ints .arg .u32 b] =
  Ah.plus.L0 N N a b 0 0 []:=by kernel_rfl
abbrev _root_.Go.Proofs.S1.Ah.plus.Kn:=A3 Tryz.prog 174 Ah.plus.spec
theorem Ah.plus.Ac (hk:Ax Tryz.prog Ah.plus.A6) (h:∀ (a b:List Int),Ah.plus.pre [.l a,.l b]=true→A8 Ah.plus.E Tryz.f174 [.ints .arg .u32 a,.ints .arg .u32 b] (Ah.plus.out [.l a,.l b])):Ah.plus.Kn :=
  Ak (Az hk _ _ _) Tryz.func174 (by kernel_rfl) (by kernel_rfl) h
def Ah.minus.hint:Nat→Option Ba
  | 0=>some { keep:=[0,1,5,6,7],objs:=[(0,5,100005,.ints 173 .u32 [])],boxes:=[] }
  | _=>none
def Ah.minus.A6:List (Nat × Entry):=[(221,Ah.Jr.spec)]
def Ah.minus.E:Env:=A9 (A5 Ah.minus.A6) (fun _=>false) Ah.minus.hint (fun _=>none)
def Ah.minus.L0 (N M:Nat) (a b:List Int) (p6 p7:Int) (p5:List Int):Option DV:=Bz Ah.minus.E N Tryz.f177 (An Tryz.f177) [1,1,1,0,1,0] [] M ⟨Gl 36 [(0,.ints .arg .u32 a),(1,.ints .arg .u32 b),(5,.oref 100005),(6,.int .u64 p6),(7,.int .i64 p7)],[(100005,false,.ints 173 .u32 p5)]⟩
theorem Ah.minus.Au (N M:Nat) (a b:List Int) (p6 p7:Int) (p5:List Int):Ah.minus.L0 N (M+1) a b p6 p7 p5=bif (A4 p7 (List.length a:Int)) then bif (Hp a) then bif (Hp b) then bif (decide ((List.length p5)+1≤Gp)) then Ah.minus.L0 N M a b (Bj ((1:Int)-(Bj (Int.tdiv (Bj ((Bj ((Bj ((4294967296:Int)+(G2 a p7)))-(G2 b p7)))-p6)) 4294967296)))) (Ab (p7+1)) (p5++[(Ju (Int.tmod (Bj ((Bj ((Bj ((4294967296:Int)+(G2 a p7)))-(G2 b p7)))-p6)) 4294967296))]) else none else none else none else some (.ints (.own 100005 173) .u32 p5):=by kernel_rfl
theorem Ah.minus.ev (N:Nat) (a b:List Int):Bp Ah.minus.E N Tryz.f177 (An Tryz.f177) [.ints .arg .u32 a,.ints .arg .u32 b] =
  Ah.minus.L0 N N a b 0 0 []:=by kernel_rfl
abbrev _root_.Go.Proofs.S1.Ah.minus.Kn:=A3 Tryz.prog 177 Ah.minus.spec
theorem Ah.minus.Ac (hk:Ax Tryz.prog Ah.minus.A6) (h:∀ (a b:List Int),Ah.minus.pre [.l a,.l b]=true→A8 Ah.minus.E Tryz.f177 [.ints .arg .u32 a,.ints .arg .u32 b] (Ah.minus.out [.l a,.l b])):Ah.minus.Kn :=
  Ak (Az hk _ _ _) Tryz.func177 (by kernel_rfl) (by kernel_rfl) h
def Ah.Add.A6:List (Nat × Entry):=[(171,Ah.Made.spec),(176,Ah.Iu.spec),(177,Ah.minus.spec),(174,Ah.plus.spec)]
def Ah.Add.E:Env:=A9 (A5 Ah.Add.A6) (fun _=>false) (fun _=>none) (fun _=>none)
theorem Ah.Add.ev (N:Nat) (n:Bool) (a:List Int) (m:Bool) (b:List Int):Bp Ah.Add.E N Tryz.f112 (An Tryz.f112) [.agg [.bool n,.ints .arg .u32 a],.agg [.bool m,.ints .arg .u32 b]]=bif (n==m) then bif (Hp a&&Hp b) then bif (Hp (J0 a b)) then some (.agg [.bool (Bi (wv n (J0 a b))),.ints .arg .u32 (Ap (wv n (J0 a b)))]) else none else none else bif (Hp a&&Hp b) then bif (A4 (Vr (Cm a) (Cm b)) 0) then bif ((Hp b&&Hp a)&&leL a b) then bif (Hp (Hg b a)) then some (.agg [.bool (Bi (wv m (Hg b a))),.ints .arg .u32 (Ap (wv m (Hg b a)))]) else none else none else bif ((Hp a&&Hp b)&&leL b a) then bif (Hp (Hg a b)) then some (.agg [.bool (Bi (wv n (Hg a b))),.ints .arg .u32 (Ap (wv n (Hg a b)))]) else none else none else none :=
  Eq.trans (by kernel_rfl)
  (Ej (C2 (Cs (Hp a&&Hp b)) (C2 (Cs (Hp (J0 a b))) rfl rfl) rfl) (Ej (Ej (C2 (Cs ((Hp b&&Hp a)&&leL a b)) (C2 (Cs (Hp (Hg b a))) rfl rfl) rfl) (C2 (Cs ((Hp a&&Hp b)&&leL b a)) (C2 (Cs (Hp (Hg a b))) rfl rfl) rfl)) rfl))
abbrev _root_.Go.Proofs.S1.Ah.Add.Kn:=A3 Tryz.prog 112 Ah.Add.spec
theorem Ah.Add.Ac (hk:Ax Tryz.prog Ah.Add.A6) (h:∀ (n:Bool) (a:List Int) (m:Bool) (b:List Int),Ah.Add.pre [.b n,.l a,.b m,.l b]=true→A8 Ah.Add.E Tryz.f112 [.agg [.bool n,.ints .arg .u32 a],.agg [.bool m,.ints .arg .u32 b]] (Ah.Add.out [.b n,.l a,.b m,.l b])):Ah.Add.Kn :=
  Ak (Az hk _ _ _) Tryz.func112 (by kernel_rfl) (by kernel_rfl) h
def Ah.Neg.A6:List (Nat × Entry):=[(171,Ah.Made.spec)]
def Ah.Neg.E:Env:=A9 (A5 Ah.Neg.A6) (fun _=>false) (fun _=>none) (fun _=>none)
theorem Ah.Neg.ev (N:Nat) (n:Bool) (a:List Int):Bp Ah.Neg.E N Tryz.f143 (An Tryz.f143) [.agg [.bool n,.ints .arg .u32 a]]=bif (Hp a) then some (.agg [.bool (Bi (wv (!n) a)),.ints .arg .u32 (Ap (wv (!n) a))]) else none:=by kernel_rfl
abbrev _root_.Go.Proofs.S1.Ah.Neg.Kn:=A3 Tryz.prog 143 Ah.Neg.spec
theorem Ah.Neg.Ac (hk:Ax Tryz.prog Ah.Neg.A6) (h:∀ (n:Bool) (a:List Int),Ah.Neg.pre [.b n,.l a]=true→A8 Ah.Neg.E Tryz.f143 [.agg [.bool n,.ints .arg .u32 a]] (Ah.Neg.out [.b n,.l a])):Ah.Neg.Kn :=
  Ak (Az hk _ _ _) Tryz.func143 (by kernel_rfl) (by kernel_rfl) h
end EqRefA
end Go.Proofs.S1
end
