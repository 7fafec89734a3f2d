/- A verified evaluator of the program's form and its use for this seat: TriL, HouW, LseW, GgW, S1Specs, S1Tt, S1EqSoft, S1PSoft, S1EqRefD, S1PRefD. -/
import Derived.Test.YtjbokjpbiobjpaaGreatTE
set_option linter.unusedVariables false
set_option linter.unusedSimpArgs false
noncomputable section
namespace Go.Rnd
open Go.Den
theorem As1 {a b:Nat}:(Ado a b).1<2^64:=by
  have h1:Ee<2^63:=by decide
  have hs:∀ (s:Bool) {r:Nat},r<2^63→Bk s r<2^64:=by
    intro s r h
    unfold Bk
    cases s
    · rw [if_neg (by decide)]; omega
    · rw [if_pos rfl]; omega
  have hN:Ql<2^64:=by decide
  unfold Ado
  by_cases c1:An a=4∨An b=4
  · rw [if_pos c1]; exact hN
  rw [if_neg c1]
  by_cases c2:An a=An b∧(An a=3∨An a=0)
  · rw [if_pos c2]; exact hN
  rw [if_neg c2]
  by_cases c3:An a=3
  · rw [if_pos c3]; exact hs _ h1
  rw [if_neg c3]
  by_cases c4:An b=3∨An a=0
  · rw [if_pos c4]; exact hs _ (by decide)
  rw [if_neg c4]
  by_cases c5:An b=0
  · rw [if_pos c5]; exact hs _ h1
  rw [if_neg c5]
  exact hs _ (Xf _ _)
theorem Adn (a b:Int):Ag (Ew a b)=true:=Cb As1
theorem Kz {a b:Int} (ha:Ag a=true) (hb:Ag b=true):Ag (Db a b)=true:=by
  obtain ⟨x,rfl,hx⟩:=Bl ha
  obtain ⟨y,rfl,hy⟩:=Bl hb
  exact Cb (Vi (by rw [Ay8]; exact hx) (V4 (by rw [Ay8]; exact hy))).1
theorem Ez {r c:Nat} {f:Nat→Nat→Int} (h:∀ i k,Ag (f i k)=true):Ae (Bg r c f)=true:=Aw.2 fun x hx=>by
  obtain ⟨j,_,rfl⟩:=List.mem_map.1 hx
  exact h _ _
theorem Ia (a b:Int):Ag (D1 a b)=true:=Cb R3
theorem M7 (c:Int) (l:List Int) (b:Nat→Int) (n:Nat):∀ k,(upL c l b n k).length=k
  | 0=>rfl
  | k+1=>by rw [upL,List.length_cons,M7 c l b n k]
theorem Ag6 (c:Int) (l:List Int) (b:Nat→Int) (n:Nat):∀ k,∀ x∈upL c l b n k,Ag x=true
  | 0,x,h=>by cases h
  | k+1,x,h=>by
    rw [upL] at h
    rcases List.mem_cons.1 h with rfl | h
    · exact Adn _ _
    · exact Ag6 c l b n k x h
theorem Aea (c:Int) (l:List Int) (b:Nat→Int) (n k:Nat):∀ d,(upL c l b n (k+d)).drop d=upL c l b n k
  | 0=>rfl
  | d+1=>by
    rw [← Nat.add_assoc,upL,List.drop_succ_cons]
    exact Aea c l b n k d
theorem Ad9 {c:Int} {l:List Int} {b:Nat→Int} {n k:Nat} (h:k≤n):(upL c l b n n).drop (n-k)=upL c l b n k:=by
  have:=Aea c l b n k (n-k)
  rw [Nat.add_sub_cancel' h] at this
  exact this
theorem Ai6 {c:Int} {l:List Int} {b:Nat→Int} {n i:Nat} (h:i<n) :
    (upL c l b n n).getD i 0=Ew (N0 c l (i:Int) (b i) ((i+1:Nat):Int) ((upL c l b n n).drop (i+1))) (Cj c l (i:Int) (i:Int)):=by
  have e1:=Ad9 (c:=c) (l:=l) (b:=b) (n:=n) (k:=n-i) (by omega)
  have e2:=Ad9 (c:=c) (l:=l) (b:=b) (n:=n) (k:=n-i-1) (by omega)
  rw [show n-(n-i)=i by omega] at e1
  rw [show n-(n-i-1)=i+1 by omega] at e2
  rw [e2]
  have e3:(upL c l b n n).getD i 0=((upL c l b n n).drop i).getD 0 0:=by
    rw [Azg,Azg,List.getElem?_drop,Nat.add_zero]
  rw [e3,e1,show n-i=(n-i-1)+1 by omega,upL]
  have e4:n-1-(n-i-1)=i:=by omega
  have e5:n-(n-i-1)=i+1:=by omega
  rw [e4,e5]
  rfl
theorem U5 {l:List Int} (h:∀ x∈l,Ag x=true) (i:Nat):Ag (l.getD i 0)=true:=by
  rw [Azg]
  cases hi:l[i]? with
  | none=>exact Cb (n:=0) (by decide)
  | some x=>exact h x (List.mem_of_getElem? hi)
theorem V7 {c:Int} {l:List Int} {i s j:Int} {xs:List Int} {t:Nat} (h:t<xs.length):N0 c l i s j (xs.drop t)=N0 c l i (Db s (D1 (Cj c l i j) (xs.getD t 0))) (j+1) (xs.drop (t+1)):=by
  rw [List.drop_eq_getElem_cons h,N0,Azg,Azn h]; rfl
theorem J1 (c:Int) (l:List Int) (b:Nat→Int):∀ k,(loL c l b k).length=k
  | 0=>rfl
  | k+1=>by rw [loL,List.length_append,J1 c l b k]; rfl
theorem Ah6 (c:Int) (l:List Int) (b:Nat→Int):∀ k,∀ x∈loL c l b k,Ag x=true
  | 0,x,h=>by cases h
  | k+1,x,h=>by
    rw [loL] at h
    rcases List.mem_append.1 h with h | h
    · exact Ah6 c l b k x h
    · rw [List.mem_singleton.1 h]; exact Adn _ _
theorem Afq {c:Int} {l:List Int} {b:Nat→Int} {k:Nat}:∀ d,(loL c l b (k+d)).take k=loL c l b k
  | 0=>by rw [Nat.add_zero]; exact List.take_of_length_le (by rw [J1]; omega)
  | d+1=>by
    rw [← Nat.add_assoc,loL,List.take_append_of_le_length (by rw [J1]; omega)]
    exact Afq d
theorem Afr {c:Int} {l:List Int} {b:Nat→Int} {n k:Nat} (h:k≤n):(loL c l b n).take k=loL c l b k:=by
  have:=Afq (c:=c) (l:=l) (b:=b) (k:=k) (n-k)
  rw [Nat.add_sub_cancel' h] at this
  exact this
theorem Asi {c:Int} {l:List Int} {b:Nat→Int} {n i:Nat} (h:i<n) :
    (loL c l b n).getD i 0=Ew (N0 c l (i:Int) (b i) 0 ((loL c l b n).take i)) (Cj c l (i:Int) (i:Int)):=by
  have e1:=Afr (c:=c) (l:=l) (b:=b) (n:=n) (k:=i+1) (by omega)
  have e2:=Afr (c:=c) (l:=l) (b:=b) (n:=n) (k:=i) (by omega)
  have e3:(loL c l b n).getD i 0=((loL c l b n).take (i+1)).getD i 0:=by
    rw [Azg,Azg,List.getElem?_take_of_lt (by omega)]
  rw [e3,e1,e2,loL,Azg,List.getElem?_append_right (by rw [J1]; omega),J1,Nat.sub_self]
  rfl
end Go.Rnd
namespace Go.Rnd
open Go.Den
def Auq:Int:=4607182418800017408
def F8 (x:Int):Int:=(Oq x.toNat).1
def Qt (x:Int):Int:=(Oq x.toNat).2
def Aem (k:Int):Int→List Int→Int
  | s,[]=>s
  | s,x::l=>Aem k (J8 s (D1 (By x k) (By x k))) l
def Dq (x:List Int):Int :=
  if Bf x=0∨Da (Bf x)=false then Bf x else By (F8 (Aem (-Bs (Bf x)) 0 x)) (Bs (Bf x))
def Eh (l:List Int):Bool:=l.all fun x=>decide (Be x=0)
def O8:List Int→Int
  | []=>0
  | x::l=>if Be x=0 then O8 l else x
def Bo (l:List Int) (k:Int):List Int:=l.map fun x=>By x k
def Jp (n:Nat) (f:Nat→Int):List Int:=Auq::(List.range (n-1)).map fun j=>f (j+1)
def muI (x:List Int):Int:=if D0 (O8 x)=true then Dq (Bo x (-Bs (Bf x))) else Dd (Dq (Bo x (-Bs (Bf x))))
def Fl (x:List Int):Int:=By (muI x) (Bs (Bf x))
def Aps (x:List Int):Int:=By (x.getD 0 0) (-Bs (Bf x))
def Sk (x:List Int):List Int:=Jp x.length fun j=>Ew (By (x.getD j 0) (-Bs (Bf x))) (Db (Aps x) (muI x))
def Td (x:List Int):Int:=Ew (Db (muI x) (Aps x)) (muI x)
def Jz (x:List Int):List Int × Int × Int × Int :=
  if Eh (x.drop 1)=true then (Jp x.length fun _=>0,0,x.getD 0 0,0)
  else if Da (Fl x)=true then (Sk x,Td x,Fl x,0) else ([],0,0,2)
def Ck (x:List Int):List Int × Int × Int × Int :=
  if x.length=0∨64<x.length then ([],0,0,3) else if Di x=true then Jz x else ([],0,0,4)
def Cu (c:Int) (l:List Int) (b i:Int) (n:Nat):List Int:=(List.range n).map fun j:Nat=>Cj c l (i+(j:Int)) b
def Ts (c:Int) (l:List Int) (i:Int) (v:List Int) (t b:Int):Int:=D1 t (G1 v (Cu c l b i v.length))
def Qa (c:Int) (l:List Int) (i k:Int) (v:List Int) (t a b:Int):Int :=
  if k≤b∧i≤a∧a<i+v.length then Db (Cj c l a b) (D1 (Ts c l i v t b) (v.getD (a-i).toNat 0)) else Cj c l a b
def Fo (r c:Nat) (l:List Int) (i k:Int) (v:List Int) (t:Int):List Int:=Bg r c fun a b=>Qa (c:Int) l i k v t (a:Int) (b:Int)
def H0 (r c i k:Int) (v:List Int):Bool:=decide (0≤i∧(v.length:Int)≤r∧i≤r-v.length∧0≤k∧k≤c)
def Nk (r c:Nat) (l:List Int) (j:Nat) (x:Int):List Int:=Bg r c fun a b=>if b=j∧j≤a then (if a=j then x else 0) else Cj (c:Int) l (a:Int) (b:Int)
def Fk (r c:Nat) (l:List Int) (j:Nat):List Int:=Cu (c:Int) l (j:Int) (j:Int) (r-j)
def Ys (r c:Nat) (l:List Int) (j:Nat):List Int:=Nk r c (Fo r c l (j:Int) (j:Int) (Ck (Fk r c l j)).1 (Ck (Fk r c l j)).2.1) j (Ck (Fk r c l j)).2.2.1
def Nj (r c:Nat):Nat→Nat→List Int→Option (List Int × List (List Int × Int))
  | 0,_,l=>some (l,[])
  | n+1,j,l=>if (Ck (Fk r c l j)).2.2.2=0 then
      (Nj r c n (j+1) (Ys r c l j)).map fun x=>(x.1,((Ck (Fk r c l j)).1,(Ck (Fk r c l j)).2.1)::x.2) else none
def Im (r c:Nat):Nat:=min c (r-1)
def Hq (n:Nat):Nat→List (List Int × Int)→List Int→List Int
  | _,[],q=>q
  | j,m::ms,q=>Fo n n (Hq n (j+1) ms q) (j:Int) 0 m.1 m.2
def Kq (r c:Nat) (l:List Int):Option (List Int × List (List Int × Int)):=Nj r c (Im r c) 0 l
def L8 (r c:Nat) (l:List Int):List Int:=match Kq r c l with
  | some x=>Hq r 0 x.2 (Jj r)
  | none=>[]
def Ix (r c:Nat) (l:List Int):List Int:=match Kq r c l with
  | some x=>x.1
  | none=>[]
def Gn (r c:Int) (l:List Int):MX:=if (Kq r.toNat c.toNat l).isSome=true then (r,c,Ix r.toNat c.toNat l,0) else Ij 2
def Yr (ms:List (List Int × Int)):List (List DV):=ms.map fun m=>[.ints .arg .u64 m.1,.int .u64 m.2]
def K6 (r c:Int) (l:List Int):List (List DV):=match Kq r.toNat c.toNat l with
  | some x=>Yr x.2
  | none=>[]
def Uw (m:Int):Int:=Ti (m.toNat*2^64)
def Ux (m:Int):Bool:=decide (Ti (m.toNat*2^64)*Ti (m.toNat*2^64)=m.toNat*2^64)
def Qi:List Int→Int→Int
  | [],_=>0
  | x::l,i=>if Be x=0 then Qi l (i+1) else i
def Lt (r c:Nat) (l:List Int):Bool:=(Kq r c l).isSome&&(Di (L8 r c l)&&Di (Ix r c l))
def Ei (r c:Int) (l:List Int):Int:=if B1 r c l≠0 then B1 r c l else if Lt r.toNat c.toNat l=true then 0 else 2
def qX (r c:Int) (l:List Int):MX:=if Ei r c l≠0 then Ij (Ei r c l) else (r,r,L8 r.toNat c.toNat l,0)
def rX (r c:Int) (l:List Int):MX:=if Ei r c l≠0 then Ij (Ei r c l) else (r,c,Ix r.toNat c.toNat l,0)
def Ed (r c:Int) (l:List Int):MX:=if Ei r c l≠0 then Ij (Ei r c l) else (r,min r c,(F4 r r (L8 r.toNat c.toNat l) 0 0 r (min r c)).2.2.1,0)
def H9 (r c:Int) (l:List Int):MX:=if Ei r c l≠0 then Ij (Ei r c l) else (min r c,c,(F4 r c (Ix r.toNat c.toNat l) 0 0 (min r c) c).2.2.1,0)
def Anb (a b:MX) (p q:Int) (m:List Int):MX :=
  if (Dm a.1 a.2.1 a.2.2.1 p q m).2.2.2≠0 then Ij (Dm a.1 a.2.1 a.2.2.1 p q m).2.2.2
  else Wm b.1 b.2.1 b.2.2.1 (Dm a.1 a.2.1 a.2.2.1 p q m).1 (Dm a.1 a.2.1 a.2.2.1 p q m).2.1 (Dm a.1 a.2.1 a.2.2.1 p q m).2.2.1
def Em (r c:Int) (l:List Int) (p q:Int) (m:List Int):MX :=
  if B1 r c l≠0 then Ij (B1 r c l) else if B1 p q m≠0 then Ij (B1 p q m) else if r<c∨r≠p then Ij 3
  else if Ei r c l≠0 then Ij (Ei r c l)
  else if (Ko (H9 r c l).1 (H9 r c l).2.1 (H9 r c l).2.2.1).1=true then Ij 5
  else Anb (Ed r c l) (H9 r c l) p q m
def Tt (x:Nat):Bool:=Dh (x<2^64)
def Af9 (x:Nat):Bool:=Dh (x<2^64∧An x≠3∧An x≠4)
def I6 (x:Nat) (k:Int):Nat:=if An x=4 then x else (Gz x k).1
def Mk (x:Nat):Nat:=if Hl x<4503599627370496 then (Nr x 4841369599423283200).1 else x
def Ji (x:Nat):Int:=if Hl x<4503599627370496 then -52 else 0
def Rb (b:Int):Int:=if Da b=true then 0 else if D0 b=true then -1 else 1
end Go.Rnd
namespace Go.Rnd
open Go.Den
def mulM (x y:MX):MX:=Fa x.1 x.2.1 x.2.2.1 y.1 y.2.1 y.2.2.1
def Atk (x:MX):MX:=Cx x.1 x.2.1 x.2.2.1
def Jn (x:MX) (i k a b:Int):MX:=F4 x.1 x.2.1 x.2.2.1 i k a b
def Ic (r c:Int) (l:List Int) (e:Int):MX:=if e≠0 then Ij e else if B1 r c l≠0 then Ij 2 else (r,c,l,0)
def Aga (x:MX):MX:=Ic x.1 x.2.1 x.2.2.1 x.2.2.2
def Kf (r c:Int) (l:List Int) (p q:Int) (m:List Int) (a b:Int) (g:List Int) (u v:Int) (h:List Int):Int :=
  if B1 r c l≠0 then B1 r c l else if B1 p q m≠0 then B1 p q m else if B1 a b g≠0 then B1 a b g else if B1 u v h≠0 then B1 u v h
  else if q≠c∨a≠r∨u≠p∨b≠1∨v≠1∨c<p∨r+p<c then 3 else 0
def Qf (l m g h:List Int):Bool:=(Ae l&&Ae m)&&(Ae g&&Ae h)
def eqT (p q:Int) (m:List Int):List Int:=(Cx p q m).2.2.1
def eqR (p q:Int) (m:List Int):MX:=rX q p (eqT p q m)
def Ra (p q:Int) (m:List Int):MX:=Atk (Jn (eqR p q m) 0 0 p p)
def hY (p q:Int) (m:List Int) (u v:Int) (h:List Int):MX :=
  if Ei q p (eqT p q m)≠0 then Ij (Ei q p (eqT p q m)) else if (Ko (Ra p q m).1 (Ra p q m).2.1 (Ra p q m).2.2.1).1=true then Ij 5
  else Qh (Ra p q m).1 (Ra p q m).2.1 (Ra p q m).2.2.1 u v h
def hQ (p q:Int) (m:List Int):MX :=
  if Ei q p (eqT p q m)≠0 then Ij (Ei q p (eqT p q m)) else if (Ko (Ra p q m).1 (Ra p q m).2.1 (Ra p q m).2.2.1).1=true then Ij 5
  else qX q p (eqT p q m)
def Aw0 (r c:Int) (l:List Int) (p q:Int) (m:List Int):MX:=Aga (mulM (r,c,l,0) (hQ p q m))
def Alx (w y:MX) (r p:Int):MX:=mulM (Jn w 0 0 r p) y
def Aoz (a b:Int) (g:List Int) (d:MX):MX:=Aga (K0 a b g d.1 d.2.1 d.2.2.1)
def Ac9 (x y:MX):MX:=Em x.1 x.2.1 x.2.2.1 y.1 y.2.1 y.2.2.1
def Vq (x y:MX):MX:=Ch x.1 x.2.1 x.2.2.1 y.1 y.2.1 y.2.2.1
def Yv (q y z:MX):MX:=if z.2.2.2≠0 then Ij z.2.2.2 else if (Vq y z).2.2.2≠0 then Ij (Vq y z).2.2.2 else Aga (mulM q (Vq y z))
def Afi (q y w f:MX) (r c p:Int):MX:=if f.2.2.2≠0 then Ij f.2.2.2 else Yv q y (Ac9 (Jn w 0 p r (c-p)) f)
def Yw (q y w:MX) (r c p a b:Int) (g:List Int):MX:=if w.2.2.2≠0 then Ij w.2.2.2 else Afi q y w (Aoz a b g (Alx w y r p)) r c p
def D7 (r c:Int) (l:List Int) (p q:Int) (m:List Int) (a b:Int) (g:List Int) (u v:Int) (h:List Int):MX :=
  if Kf r c l p q m a b g u v h≠0 then Ij (Kf r c l p q m a b g u v h)
  else if (hY p q m u v h).2.2.2≠0 then Ij (hY p q m u v h).2.2.2
  else Yw (hQ p q m) (hY p q m u v h) (Aw0 r c l p q m) r c p a b g
end Go.Rnd
namespace Go.Rnd
open Go.Den
end Go.Rnd
namespace Go.Proofs.S1
open Go Go.Den Go.Rnd
def soft.Split.pre:List Atom→Bool
  | [.i x]=>Ag x
  | _=>false
def soft.Split.out:List Atom→DV
  | [.i x]=>.agg [.bool (D0 x),.int .i64 (L5 x),.int .u64 (C2 x)]
  | _=>.undef
def soft.Split.spec:Entry:=entry [.i .u64] soft.Split.pre soft.Split.out
def soft.Kind.pre:List Atom→Bool
  | [.i x]=>Ag x
  | _=>false
def soft.Kind.out:List Atom→DV
  | [.i x]=>.int .i64 (Be x)
  | _=>.undef
def soft.Kind.spec:Entry:=entry [.i .u64] soft.Kind.pre soft.Kind.out
def soft.Sign.pre:List Atom→Bool
  | [.i x]=>Ag x
  | _=>false
def soft.Sign.out:List Atom→DV
  | [.i x]=>.bool (D0 x)
  | _=>.undef
def soft.Sign.spec:Entry:=entry [.i .u64] soft.Sign.pre soft.Sign.out
def soft.Finite.pre:List Atom→Bool
  | [.i x]=>Ag x
  | _=>false
def soft.Finite.out:List Atom→DV
  | [.i x]=>.bool (Da x)
  | _=>.undef
def soft.Finite.spec:Entry:=entry [.i .u64] soft.Finite.pre soft.Finite.out
def soft.Dv.pre:List Atom→Bool
  | [.i x]=>Ag x
  | _=>false
def soft.Dv.out:List Atom→DV
  | [.i x]=>.int .u64 (Dd x)
  | _=>.undef
def soft.Dv.spec:Entry:=entry [.i .u64] soft.Dv.pre soft.Dv.out
def soft.Gp.pre:List Atom→Bool
  | [.i x]=>Ag x
  | _=>false
def soft.Gp.out:List Atom→DV
  | [.i x]=>.tup [.int .u64 (Bw x),.int .i64 (Bh x)]
  | _=>.undef
def soft.Gp.spec:Entry:=entry [.i .u64] soft.Gp.pre soft.Gp.out
def soft.Pack.mu:List Atom→Nat
  | [.b _n,.i m,.i e]=>Ps m e
  | _=>0
def soft.Pack.pre:List Atom→Bool
  | [.b _n,.i m,.i e]=>Lf m e
  | _=>false
def soft.Pack.out:List Atom→DV
  | [.b n,.i m,.i e]=>.int .u64 (Ui n m e)
  | _=>.undef
def soft.Pack.spec:Entry:=entry [.b,.i .u64,.i .i64] soft.Pack.pre soft.Pack.out
def soft.Dn.pre:List Atom→Bool
  | [.b _n,.i m,.i e,.b r]=>Eo m e r
  | _=>false
def soft.Dn.out:List Atom→DV
  | [.b n,.i m,.i e,.b r]=>.tup [.int .u64 (Fi n m e r),.int .u8 (Fh n m e r)]
  | _=>.undef
def soft.Dn.spec:Entry:=entry [.b,.i .u64,.i .i64,.b] soft.Dn.pre soft.Dn.out
def sum.right.pre:List Atom→Bool
  | [.i m,.i d]=>Ag m&&Dh (0≤d∧d<1000000)
  | _=>false
def sum.right.out:List Atom→DV
  | [.i m,.i d]=>.int .u64 (Fu m d)
  | _=>.undef
def sum.right.spec:Entry:=entry [.i .u64,.i .i64] sum.right.pre sum.right.out
def sum.E5.pre:List Atom→Bool
  | [.i a,.i b]=>(Ag a&&Ag b)&&(!(Da a)||!(Da b))
  | _=>false
def sum.E5.out:List Atom→DV
  | [.i a,.i b]=>.tup [.int .u64 (J8 a b),.int .u8 (W4 a b)]
  | _=>.undef
def sum.E5.spec:Entry:=entry [.i .u64,.i .u64] sum.E5.pre sum.E5.out
def sum.Add.pre:List Atom→Bool
  | [.i a,.i b]=>Ag a&&Ag b
  | _=>false
def sum.Add.out:List Atom→DV
  | [.i a,.i b]=>.tup [.int .u64 (J8 a b),.int .u8 (W4 a b)]
  | _=>.undef
def sum.Add.spec:Entry:=entry [.i .u64,.i .u64] sum.Add.pre sum.Add.out
def sum.Sub.pre:List Atom→Bool
  | [.i a,.i b]=>Ag a&&Ag b
  | _=>false
def sum.Sub.out:List Atom→DV
  | [.i a,.i b]=>.tup [.int .u64 (Db a b),.int .u8 (Awr a b)]
  | _=>.undef
def sum.Sub.spec:Entry:=entry [.i .u64,.i .u64] sum.Sub.pre sum.Sub.out
def A4.Neg.pre:List Atom→Bool
  | [.i x]=>Ag x
  | _=>false
def A4.Neg.out:List Atom→DV
  | [.i x]=>.bool (D0 x)
  | _=>.undef
def A4.Neg.spec:Entry:=entry [.i .u64] A4.Neg.pre A4.Neg.out
def A4.Power.pre:List Atom→Bool
  | [.i x]=>K4 x
  | _=>false
def A4.Power.out:List Atom→DV
  | [.i x]=>.int .i64 (L5 x)
  | _=>.undef
def A4.Power.spec:Entry:=entry [.i .u64] A4.Power.pre A4.Power.out
def A4.Lz.pre:List Atom→Bool
  | [.i x]=>K4 x
  | _=>false
def A4.Lz.out:List Atom→DV
  | [.i x]=>.int .u64 (C2 x)
  | _=>.undef
def A4.Lz.spec:Entry:=entry [.i .u64] A4.Lz.pre A4.Lz.out
def A4.Kind.pre:List Atom→Bool
  | [.i x]=>K4 x
  | _=>false
def A4.Kind.out:List Atom→DV
  | [.i x]=>.int .i64 (Be x)
  | _=>.undef
def A4.Kind.spec:Entry:=entry [.i .u64] A4.Kind.pre A4.Kind.out
def A4.Finite.pre:List Atom→Bool
  | [.i x]=>Ag x
  | _=>false
def A4.Finite.out:List Atom→DV
  | [.i x]=>.bool (Da x)
  | _=>.undef
def A4.Finite.spec:Entry:=entry [.i .u64] A4.Finite.pre A4.Finite.out
def A4.Dv.pre:List Atom→Bool
  | [.i x]=>Ag x
  | _=>false
def A4.Dv.out:List Atom→DV
  | [.i x]=>.int .u64 (Dd x)
  | _=>.undef
def A4.Dv.spec:Entry:=entry [.i .u64] A4.Dv.pre A4.Dv.out
def Ff.Canon.pre:List Atom→Bool
  | [.i x]=>K4 x
  | _=>false
def Ff.Canon.out:List Atom→DV
  | [.i x]=>.int .u64 (Zv x)
  | _=>.undef
def Ff.Canon.spec:Entry:=entry [.i .u64] Ff.Canon.pre Ff.Canon.out
def C1.B6.pre:List Atom→Bool
  | [.i x]=>Ag x
  | _=>false
def C1.B6.out:List Atom→DV
  | [.i x]=>.int .i64 (64-Fj x)
  | _=>.undef
def C1.B6.spec:Entry:=entry [.i .u64] C1.B6.pre C1.B6.out
def C1.It.pre:List Atom→Bool
  | [.i x,.i y]=>Ag x&&Ag y
  | _=>false
def C1.It.out:List Atom→DV
  | [.i x,.i y]=>.tup [.int .u64 (Sr x y),.int .u64 (Nx x y)]
  | _=>.undef
def C1.It.spec:Entry:=entry [.i .u64,.i .u64] C1.It.pre C1.It.out
def times.signed.pre:List Atom→Bool
  | [.i b,.b _n]=>Ag b
  | _=>false
def times.signed.out:List Atom→DV
  | [.i b,.b n]=>.int .u64 (So n b)
  | _=>.undef
def times.signed.spec:Entry:=entry [.i .u64,.b] times.signed.pre times.signed.out
def times.nan.pre:List Atom→Bool
  | [.i a,.i b]=>Ag a&&Ag b
  | _=>false
def times.nan.out:List Atom→DV
  | [.i a,.i b]=>.bool (Aop a b)
  | _=>.undef
def times.nan.spec:Entry:=entry [.i .u64,.i .u64] times.nan.pre times.nan.out
def times.norm.pre:List Atom→Bool
  | [.i b]=>Ag b&&Ml b
  | _=>false
def times.norm.out:List Atom→DV
  | [.i b]=>.tup [.int .u64 (C3 b),.int .i64 (Ho b)]
  | _=>.undef
def times.norm.spec:Entry:=entry [.i .u64] times.norm.pre times.norm.out
def times.wide.pre:List Atom→Bool
  | [.b _n,.i m,.i e,.b _r]=>Ph m e
  | _=>false
def times.wide.out:List Atom→DV
  | [.b n,.i m,.i e,.b r]=>.tup [.int .u64 (Fi n m e r),.int .u8 (Fh n m e r)]
  | _=>.undef
def times.wide.spec:Entry:=entry [.b,.i .u64,.i .i64,.b] times.wide.pre times.wide.out
def times.Mul.pre:List Atom→Bool
  | [.i a,.i b]=>Ag a&&Ag b
  | _=>false
def times.Mul.out:List Atom→DV
  | [.i a,.i b]=>.tup [.int .u64 (D1 a b),.int .u8 (Awx a b)]
  | _=>.undef
def times.Mul.spec:Entry:=entry [.i .u64,.i .u64] times.Mul.pre times.Mul.out
def times.Div.pre:List Atom→Bool
  | [.i a,.i b]=>Ag a&&Ag b
  | _=>false
def times.Div.out:List Atom→DV
  | [.i a,.i b]=>.tup [.int .u64 (Ew a b),.int .u8 (Aw5 a b)]
  | _=>.undef
def times.Div.spec:Entry:=entry [.i .u64,.i .u64] times.Div.pre times.Div.out
def Ah.Add.pre:List Atom→Bool
  | [.i a,.i b]=>Ag a&&Ag b
  | _=>false
def Ah.Add.out:List Atom→DV
  | [.i a,.i b]=>.int .u64 (J8 a b)
  | _=>.undef
def Ah.Add.spec:Entry:=entry [.i .u64,.i .u64] Ah.Add.pre Ah.Add.out
def Ah.Sub.pre:List Atom→Bool
  | [.i a,.i b]=>Ag a&&Ag b
  | _=>false
def Ah.Sub.out:List Atom→DV
  | [.i a,.i b]=>.int .u64 (Db a b)
  | _=>.undef
def Ah.Sub.spec:Entry:=entry [.i .u64,.i .u64] Ah.Sub.pre Ah.Sub.out
def Ah.Mul.pre:List Atom→Bool
  | [.i a,.i b]=>Ag a&&Ag b
  | _=>false
def Ah.Mul.out:List Atom→DV
  | [.i a,.i b]=>.int .u64 (D1 a b)
  | _=>.undef
def Ah.Mul.spec:Entry:=entry [.i .u64,.i .u64] Ah.Mul.pre Ah.Mul.out
def Ah.fit.pre:List Atom→Bool
  | [.l _x,.l _y]=>true
  | _=>false
def Ah.fit.out:List Atom→DV
  | [.l x,.l y]=>.bool (Pc x y)
  | _=>.undef
def Ah.fit.spec:Entry:=entry [.s .u64,.s .u64] Ah.fit.pre Ah.fit.out
def Ah.Ig.pre:List Atom→Bool
  | [.l x,.l y]=>(Pc x y&&Ae x)&&Ae y
  | _=>false
def Ah.Ig.out:List Atom→DV
  | [.l x,.l y]=>.tup [.int .u64 (G1 x y),.int .i64 (0:Int)]
  | _=>.undef
def Ah.Ig.spec:Entry:=entry [.s .u64,.s .u64] Ah.Ig.pre Ah.Ig.out
def Ak.F.pre:List Atom→Bool
  | [.i x]=>Ag x
  | _=>false
def Ak.F.out:List Atom→DV
  | [.i x]=>.fl (Int.toNat x)
  | _=>.undef
def Ak.F.spec:Entry:=entry [.i .u64] Ak.F.pre Ak.F.out
def Ak.B.pre:List Atom→Bool
  | [.f _x]=>true
  | _=>false
def Ak.B.out:List Atom→DV
  | [.f x]=>.int .u64 (Ga x)
  | _=>.undef
def Ak.B.spec:Entry:=entry [.fl] Ak.B.pre Ak.B.out
def Ak.Add.pre:List Atom→Bool
  | [.i a,.i b]=>Ag a&&Ag b
  | _=>false
def Ak.Add.out:List Atom→DV
  | [.i a,.i b]=>.int .u64 (J8 a b)
  | _=>.undef
def Ak.Add.spec:Entry:=entry [.i .u64,.i .u64] Ak.Add.pre Ak.Add.out
def Ak.Sub.pre:List Atom→Bool
  | [.i a,.i b]=>Ag a&&Ag b
  | _=>false
def Ak.Sub.out:List Atom→DV
  | [.i a,.i b]=>.int .u64 (Db a b)
  | _=>.undef
def Ak.Sub.spec:Entry:=entry [.i .u64,.i .u64] Ak.Sub.pre Ak.Sub.out
def Ak.Mul.pre:List Atom→Bool
  | [.i a,.i b]=>Ag a&&Ag b
  | _=>false
def Ak.Mul.out:List Atom→DV
  | [.i a,.i b]=>.int .u64 (D1 a b)
  | _=>.undef
def Ak.Mul.spec:Entry:=entry [.i .u64,.i .u64] Ak.Mul.pre Ak.Mul.out
def Ak.Ig.pre:List Atom→Bool
  | [.l x,.l y]=>(Pc x y&&Ae x)&&Ae y
  | _=>false
def Ak.Ig.out:List Atom→DV
  | [.l x,.l y]=>.int .u64 (G1 x y)
  | _=>.undef
def Ak.Ig.spec:Entry:=entry [.s .u64,.s .u64] Ak.Ig.pre Ak.Ig.out
def Ak.Fb.pre:List Atom→Bool
  | [.l x,.l _y]=>F1 x
  | _=>false
def Ak.Fb.out:List Atom→DV
  | [.l x,.l y]=>.bool (Uc x y)
  | _=>.undef
def Ak.Fb.spec:Entry:=entry [.s .u64,.s .u64] Ak.Fb.pre Ak.Fb.out
def Aa.size.pre:List Atom→Bool
  | [.i _n]=>true
  | _=>false
def Aa.size.out:List Atom→DV
  | [.i n]=>.bool (Bn n)
  | _=>.undef
def Aa.size.spec:Entry:=entry [.i .i64] Aa.size.pre Aa.size.out
def Aa.Check.pre:List Atom→Bool
  | [.i _r,.i _c,.l _l]=>true
  | _=>false
def Aa.Check.out:List Atom→DV
  | [.i r,.i c,.l l]=>.int .i64 (La r c l)
  | _=>.undef
def Aa.Check.spec:Entry:=entry [.st [.i .i64,.i .i64,.s .u64]] Aa.Check.pre Aa.Check.out
def Aa.get.pre:List Atom→Bool
  | [.i r,.i c,.l l,.i i,.i k]=>Cd r c l i k
  | _=>false
def Aa.get.out:List Atom→DV
  | [.i _r,.i c,.l l,.i i,.i k]=>.int .u64 (Cj c l i k)
  | _=>.undef
def Aa.get.spec:Entry:=entry [.st [.i .i64,.i .i64,.s .u64],.i .i64,.i .i64] Aa.get.pre Aa.get.out
def Aa.two.pre:List Atom→Bool
  | [.i _r,.i _c,.l _l,.i _p,.i _q,.l _m]=>true
  | _=>false
def Aa.two.out:List Atom→DV
  | [.i r,.i c,.l l,.i p,.i q,.l m]=>.int .i64 (Vl r c l p q m)
  | _=>.undef
def Aa.two.spec:Entry:=entry [.st [.i .i64,.i .i64,.s .u64],.st [.i .i64,.i .i64,.s .u64]] Aa.two.pre Aa.two.out
def Aa.Row.pre:List Atom→Bool
  | [.i r,.i c,.l l,.i i,.i f]=>Pp r c l i&&decide (f=0)
  | _=>false
def Aa.Row.out:List Atom→DV
  | [.i _r,.i c,.l l,.i i,.i _f]=>.ints .fresh .u64 (Fw c l i)
  | _=>.undef
def Aa.Row.spec:Entry:=entry [.st [.i .i64,.i .i64,.s .u64],.i .i64,.i .i64] Aa.Row.pre Aa.Row.out
def Aa.D8.pre:List Atom→Bool
  | [.i r,.i c,.l l,.i k,.i f]=>Hj r c l k&&Dh (0≤f∧f≤r)
  | _=>false
def Aa.D8.out:List Atom→DV
  | [.i r,.i c,.l l,.i k,.i f]=>.ints .fresh .u64 (Cu c l k f (Int.toNat (r-f)))
  | _=>.undef
def Aa.D8.spec:Entry:=entry [.st [.i .i64,.i .i64,.s .u64],.i .i64,.i .i64] Aa.D8.pre Aa.D8.out
def Aa.E0.pre:List Atom→Bool
  | [.i _i,.i _k]=>true
  | _=>false
def Aa.E0.out:List Atom→DV
  | [.i _i,.i _k]=>.int .u64 (0:Int)
  | _=>.undef
def Aa.E0.spec:Entry:=entry [.i .i64,.i .i64] Aa.E0.pre Aa.E0.out
def Aa.Iw.pre:List Atom→Bool
  | [.i _i,.i _k]=>true
  | _=>false
def Aa.Iw.out:List Atom→DV
  | [.i i,.i k]=>.int .u64 (Ns i k)
  | _=>.undef
def Aa.Iw.spec:Entry:=entry [.i .i64,.i .i64] Aa.Iw.pre Aa.Iw.out
def Aa.Gc.pre:List Atom→Bool
  | [.i i,.i k,.i r,.i c,.l l]=>Cd r c l k i
  | _=>false
def Aa.Gc.out:List Atom→DV
  | [.i i,.i k,.i _r,.i c,.l l]=>.int .u64 (Cj c l k i)
  | _=>.undef
def Aa.Gc.spec:Entry:=entry [.i .i64,.i .i64,.cp [.i .i64,.i .i64,.s .u64]] Aa.Gc.pre Aa.Gc.out
def Aa.Ge.pre:List Atom→Bool
  | [.i i,.i k,.i r,.i c,.l l,.i x,.i y]=>Cd r c l (x+i) (y+k)&&Vs x y i k
  | _=>false
def Aa.Ge.out:List Atom→DV
  | [.i i,.i k,.i _r,.i c,.l l,.i x,.i y]=>.int .u64 (Cj c l (x+i) (y+k))
  | _=>.undef
def Aa.Ge.spec:Entry:=entry [.i .i64,.i .i64,.cp [.i .i64,.i .i64,.s .u64],.cp [.i .i64],.cp [.i .i64]] Aa.Ge.pre Aa.Ge.out
def Aa.Iq.pre:List Atom→Bool
  | [.i i,.i k,.i r,.i c,.l l,.i p,.i q,.l m]=>((Cd r c l i k&&Cd p q m i k)&&Ae l)&&Ae m
  | _=>false
def Aa.Iq.out:List Atom→DV
  | [.i i,.i k,.i _r,.i c,.l l,.i _p,.i q,.l m]=>.int .u64 (Db (Cj c l i k) (Cj q m i k))
  | _=>.undef
def Aa.Iq.spec:Entry:=entry [.i .i64,.i .i64,.cp [.i .i64,.i .i64,.s .u64],.cp [.i .i64,.i .i64,.s .u64]] Aa.Iq.pre Aa.Iq.out
def Aa.E7.pre:List Atom→Bool
  | [.i i,.i k,.i r,.i c,.l l,.i p,.i q,.l m]=>M9 r c l p q m i k
  | _=>false
def Aa.E7.out:List Atom→DV
  | [.i i,.i k,.i r,.i c,.l l,.i _p,.i q,.l m]=>.int .u64 (Jm r c l q m i k)
  | _=>.undef
def Aa.E7.spec:Entry:=entry [.i .i64,.i .i64,.cp [.i .i64,.i .i64,.s .u64],.cp [.i .i64,.i .i64,.s .u64]] Aa.E7.pre Aa.E7.out
def Aa.Is.pre:List Atom→Bool
  | [.i i,.i k,.i r,.i c,.l l,.i p,.i q,.l m]=>Tc r c l p q m i k
  | _=>false
def Aa.Is.out:List Atom→DV
  | [.i i,.i k,.i _r,.i c,.l l,.i p,.i q,.l m]=>.int .u64 (G1 (Fw c l i) (Hk p q m k))
  | _=>.undef
def Aa.Is.spec:Entry:=entry [.i .i64,.i .i64,.cp [.i .i64,.i .i64,.s .u64],.cp [.i .i64,.i .i64,.s .u64]] Aa.Is.pre Aa.Is.out
def Aa.of.Fc.pre:List Atom→Bool
  | [.i a,.i b]=>(Bn a&&Bn b)
  | _=>false
def Aa.of.Fc.out:List Atom→DV
  | [.i a,.i b]=>.agg [.int .i64 a,.int .i64 b,.ints .fresh .u64 (Bg (Int.toNat a) (Int.toNat b) (fun j1 j2=>Ns j1 j2))]
  | _=>.undef
def Aa.of.Fc.spec:Entry:=entry [.i .i64,.i .i64,.fn 246 []] Aa.of.Fc.pre Aa.of.Fc.out
def Aa.of.Co.pre:List Atom→Bool
  | [.i a,.i b,.i r,.i c,.l l]=>(Bn a&&Bn b)&&Av r c l&&decide (a=c∧b=r)
  | _=>false
def Aa.of.Co.out:List Atom→DV
  | [.i a,.i b,.i _r,.i c,.l l]=>.agg [.int .i64 a,.int .i64 b,.ints .fresh .u64 (Bg (Int.toNat a) (Int.toNat b) (fun j1 j2=>Cj c l j2 j1))]
  | _=>.undef
def Aa.of.Co.spec:Entry:=entry [.i .i64,.i .i64,.fn 220 [.cp [.i .i64,.i .i64,.s .u64]]] Aa.of.Co.pre Aa.of.Co.out
def Aa.of.Part.pre:List Atom→Bool
  | [.i a,.i b,.i r,.i c,.l l,.i x,.i y]=>(Bn a&&Bn b)&&Av r c l&&Gk r c x y a b
  | _=>false
def Aa.of.Part.out:List Atom→DV
  | [.i a,.i b,.i _r,.i c,.l l,.i x,.i y]=>.agg [.int .i64 a,.int .i64 b,.ints .fresh .u64 (Bg (Int.toNat a) (Int.toNat b) (fun j1 j2=>Cj c l (x+j1) (y+j2)))]
  | _=>.undef
def Aa.of.Part.spec:Entry:=entry [.i .i64,.i .i64,.fn 192 [.cp [.i .i64,.i .i64,.s .u64],.cp [.i .i64],.cp [.i .i64]]] Aa.of.Part.pre Aa.of.Part.out
def Aa.of.Sub.pre:List Atom→Bool
  | [.i a,.i b,.i r,.i c,.l l,.i p,.i q,.l m]=>(Bn a&&Bn b)&&((Av r c l&&Av p q m)&&(Ae l&&Ae m))&&decide (a=r∧b=c∧p=r∧q=c)
  | _=>false
def Aa.of.Sub.out:List Atom→DV
  | [.i a,.i b,.i _r,.i c,.l l,.i _p,.i q,.l m]=>.agg [.int .i64 a,.int .i64 b,.ints .fresh .u64 (Bg (Int.toNat a) (Int.toNat b) (fun j1 j2=>Db (Cj c l j1 j2) (Cj q m j1 j2)))]
  | _=>.undef
def Aa.of.Sub.spec:Entry:=entry [.i .i64,.i .i64,.fn 194 [.cp [.i .i64,.i .i64,.s .u64],.cp [.i .i64,.i .i64,.s .u64]]] Aa.of.Sub.pre Aa.of.Sub.out
def Aa.of.Stack.pre:List Atom→Bool
  | [.i a,.i b,.i r,.i c,.l l,.i p,.i q,.l m]=>(Bn a&&Bn b)&&(Av r c l&&Av p q m)&&decide (a=r+p∧b=c∧q=c)
  | _=>false
def Aa.of.Stack.out:List Atom→DV
  | [.i a,.i b,.i r,.i c,.l l,.i _p,.i q,.l m]=>.agg [.int .i64 a,.int .i64 b,.ints .fresh .u64 (Bg (Int.toNat a) (Int.toNat b) (fun j1 j2=>Jm r c l q m j1 j2))]
  | _=>.undef
def Aa.of.Stack.spec:Entry:=entry [.i .i64,.i .i64,.fn 195 [.cp [.i .i64,.i .i64,.s .u64],.cp [.i .i64,.i .i64,.s .u64]]] Aa.of.Stack.pre Aa.of.Stack.out
def Aa.of.Mul.pre:List Atom→Bool
  | [.i a,.i b,.i r,.i c,.l l,.i p,.i q,.l m]=>(Bn a&&Bn b)&&((Av r c l&&Av p q m)&&(Ae l&&Ae m))&&decide (a=r∧b=q∧c=p)
  | _=>false
def Aa.of.Mul.out:List Atom→DV
  | [.i a,.i b,.i _r,.i c,.l l,.i p,.i q,.l m]=>.agg [.int .i64 a,.int .i64 b,.ints .fresh .u64 (Bg (Int.toNat a) (Int.toNat b) (fun j1 j2=>G1 (Fw c l j1) (Hk p q m j2)))]
  | _=>.undef
def Aa.of.Mul.spec:Entry:=entry [.i .i64,.i .i64,.fn 188 [.cp [.i .i64,.i .i64,.s .u64],.cp [.i .i64,.i .i64,.s .u64]]] Aa.of.Mul.pre Aa.of.Mul.out
def Aa.Fc.pre:List Atom→Bool
  | [.i _n]=>true
  | _=>false
def Aa.Fc.out:List Atom→DV
  | [.i n]=>.tup [.agg [.int .i64 ((Ni n).1),.int .i64 ((Ni n).2.1),.ints .fresh .u64 ((Ni n).2.2.1)],.int .i64 ((Ni n).2.2.2)]
  | _=>.undef
def Aa.Fc.spec:Entry:=entry [.i .i64] Aa.Fc.pre Aa.Fc.out
def Aa.Co.pre:List Atom→Bool
  | [.i _r,.i _c,.l _l]=>true
  | _=>false
def Aa.Co.out:List Atom→DV
  | [.i r,.i c,.l l]=>.tup [.agg [.int .i64 ((Cx r c l).1),.int .i64 ((Cx r c l).2.1),.ints .fresh .u64 ((Cx r c l).2.2.1)],.int .i64 ((Cx r c l).2.2.2)]
  | _=>.undef
def Aa.Co.spec:Entry:=entry [.st [.i .i64,.i .i64,.s .u64]] Aa.Co.pre Aa.Co.out
def Aa.Part.pre:List Atom→Bool
  | [.i _r,.i _c,.l _l,.i _x,.i _y,.i _a,.i _b]=>true
  | _=>false
def Aa.Part.out:List Atom→DV
  | [.i r,.i c,.l l,.i x,.i y,.i a,.i b]=>.tup [.agg [.int .i64 ((F4 r c l x y a b).1),.int .i64 ((F4 r c l x y a b).2.1),.ints .fresh .u64 ((F4 r c l x y a b).2.2.1)],.int .i64 ((F4 r c l x y a b).2.2.2)]
  | _=>.undef
def Aa.Part.spec:Entry:=entry [.st [.i .i64,.i .i64,.s .u64],.i .i64,.i .i64,.i .i64,.i .i64] Aa.Part.pre Aa.Part.out
def Aa.Sub.pre:List Atom→Bool
  | [.i _r,.i _c,.l l,.i _p,.i _q,.l m]=>Ae l&&Ae m
  | _=>false
def Aa.Sub.out:List Atom→DV
  | [.i r,.i c,.l l,.i p,.i q,.l m]=>.tup [.agg [.int .i64 ((K0 r c l p q m).1),.int .i64 ((K0 r c l p q m).2.1),.ints .fresh .u64 ((K0 r c l p q m).2.2.1)],.int .i64 ((K0 r c l p q m).2.2.2)]
  | _=>.undef
def Aa.Sub.spec:Entry:=entry [.st [.i .i64,.i .i64,.s .u64],.st [.i .i64,.i .i64,.s .u64]] Aa.Sub.pre Aa.Sub.out
def Aa.Stack.pre:List Atom→Bool
  | [.i _r,.i _c,.l _l,.i _p,.i _q,.l _m]=>true
  | _=>false
def Aa.Stack.out:List Atom→DV
  | [.i r,.i c,.l l,.i p,.i q,.l m]=>.tup [.agg [.int .i64 ((Ch r c l p q m).1),.int .i64 ((Ch r c l p q m).2.1),.ints .fresh .u64 ((Ch r c l p q m).2.2.1)],.int .i64 ((Ch r c l p q m).2.2.2)]
  | _=>.undef
def Aa.Stack.spec:Entry:=entry [.st [.i .i64,.i .i64,.s .u64],.st [.i .i64,.i .i64,.s .u64]] Aa.Stack.pre Aa.Stack.out
def Aa.Mul.pre:List Atom→Bool
  | [.i _r,.i _c,.l l,.i _p,.i _q,.l m]=>Ae l&&Ae m
  | _=>false
def Aa.Mul.out:List Atom→DV
  | [.i r,.i c,.l l,.i p,.i q,.l m]=>.tup [.agg [.int .i64 ((Fa r c l p q m).1),.int .i64 ((Fa r c l p q m).2.1),.ints .fresh .u64 ((Fa r c l p q m).2.2.1)],.int .i64 ((Fa r c l p q m).2.2.2)]
  | _=>.undef
def Aa.Mul.spec:Entry:=entry [.st [.i .i64,.i .i64,.s .u64],.st [.i .i64,.i .i64,.s .u64]] Aa.Mul.pre Aa.Mul.out
def Af.Ir.pre:List Atom→Bool
  | [.i _r,.i _c,.l _l]=>true
  | _=>false
def Af.Ir.out:List Atom→DV
  | [.i r,.i c,.l l]=>.bool (Av r c l)
  | _=>.undef
def Af.Ir.spec:Entry:=entry [.st [.i .i64,.i .i64,.s .u64]] Af.Ir.pre Af.Ir.out
def Af.At.pre:List Atom→Bool
  | [.i r,.i c,.l l,.i i,.i k]=>Cd r c l i k
  | _=>false
def Af.At.out:List Atom→DV
  | [.i _r,.i c,.l l,.i i,.i k]=>.int .u64 (Cj c l i k)
  | _=>.undef
def Af.At.spec:Entry:=entry [.st [.i .i64,.i .i64,.s .u64],.i .i64,.i .i64] Af.At.pre Af.At.out
def Af.Bm.pre:List Atom→Bool
  | [.i a,.i b]=>Bn a&&Bn b
  | _=>false
def Af.Bm.out:List Atom→DV
  | [.i a,.i b]=>.agg [.int .i64 a,.int .i64 b,.ints .fresh .u64 (Bg (Int.toNat a) (Int.toNat b) (fun _ _=>0))]
  | _=>.undef
def Af.Bm.spec:Entry:=entry [.i .i64,.i .i64] Af.Bm.pre Af.Bm.out
def Af.F5.pre:List Atom→Bool
  | [.i r,.i c,.l l,.i i,.i k,.i _b]=>Cd r c l i k
  | _=>false
def Af.F5.out:List Atom→DV
  | [.i r,.i c,.l l,.i i,.i k,.i b]=>.agg [.int .i64 r,.int .i64 c,.ints .fresh .u64 (List.set l (Int.toNat (i*c+k)) b)]
  | _=>.undef
def Af.F5.spec:Entry:=entry [.st [.i .i64,.i .i64,.s .u64],.i .i64,.i .i64,.i .u64] Af.F5.pre Af.F5.out
def Af.Fc.pre:List Atom→Bool
  | [.i n]=>Bn n
  | _=>false
def Af.Fc.out:List Atom→DV
  | [.i n]=>.agg [.int .i64 n,.int .i64 n,.ints .fresh .u64 (Bg (Int.toNat n) (Int.toNat n) (fun j1 j2=>Ns j1 j2))]
  | _=>.undef
def Af.Fc.spec:Entry:=entry [.i .i64] Af.Fc.pre Af.Fc.out
def Af.Fb.pre:List Atom→Bool
  | [.i _r,.i _c,.l l,.i _p,.i _q,.l _m]=>F1 l
  | _=>false
def Af.Fb.out:List Atom→DV
  | [.i r,.i c,.l l,.i p,.i q,.l m]=>.bool (Dg r c l p q m)
  | _=>.undef
def Af.Fb.spec:Entry:=entry [.st [.i .i64,.i .i64,.s .u64],.st [.i .i64,.i .i64,.s .u64]] Af.Fb.pre Af.Fb.out
def Af.Np.pre:List Atom→Bool
  | [.i _r,.i _c,.l l]=>F1 l
  | _=>false
def Af.Np.out:List Atom→DV
  | [.i r,.i c,.l l]=>.agg [.int .i64 r,.int .i64 c,.ints .fresh .u64 l]
  | _=>.undef
def Af.Np.spec:Entry:=entry [.st [.i .i64,.i .i64,.s .u64]] Af.Np.pre Af.Np.out
def Af.Row.pre:List Atom→Bool
  | [.i r,.i c,.l l,.i i]=>Pp r c l i
  | _=>false
def Af.Row.out:List Atom→DV
  | [.i _r,.i c,.l l,.i i]=>.ints .arg .u64 (Fw c l i)
  | _=>.undef
def Af.Row.spec:Entry:=entry [.st [.i .i64,.i .i64,.s .u64],.i .i64] Af.Row.pre Af.Row.out
def Af.Qk.pre:List Atom→Bool
  | [.i r,.i c,.l l,.i k,.i f]=>Hj r c l k&&Dh (0≤f∧f≤r)
  | _=>false
def Af.Qk.out:List Atom→DV
  | [.i r,.i c,.l l,.i k,.i f]=>.ints .fresh .u64 (Cu c l k f (Int.toNat (r-f)))
  | _=>.undef
def Af.Qk.spec:Entry:=entry [.st [.i .i64,.i .i64,.s .u64],.i .i64,.i .i64] Af.Qk.pre Af.Qk.out
def Af.Mul.pre:List Atom→Bool
  | [.i r,.i c,.l l,.i p,.i q,.l m]=>(Av r c l&&Av p q m)&&((Ae l&&Ae m)&&decide (c=p))
  | _=>false
def Af.Mul.out:List Atom→DV
  | [.i r,.i c,.l l,.i p,.i q,.l m]=>.agg [.int .i64 r,.int .i64 q,.ints .fresh .u64 (Bg (Int.toNat r) (Int.toNat q) (fun j1 j2=>G1 (Fw c l j1) (Hk p q m j2)))]
  | _=>.undef
def Af.Mul.spec:Entry:=entry [.st [.i .i64,.i .i64,.s .u64],.st [.i .i64,.i .i64,.s .u64]] Af.Mul.pre Af.Mul.out
def Af.Co.pre:List Atom→Bool
  | [.i r,.i c,.l l]=>Av r c l
  | _=>false
def Af.Co.out:List Atom→DV
  | [.i r,.i c,.l l]=>.agg [.int .i64 c,.int .i64 r,.ints .fresh .u64 (Bg (Int.toNat c) (Int.toNat r) (fun j1 j2=>Cj c l j2 j1))]
  | _=>.undef
def Af.Co.spec:Entry:=entry [.st [.i .i64,.i .i64,.s .u64]] Af.Co.pre Af.Co.out
def Af.Part.pre:List Atom→Bool
  | [.i r,.i c,.l l,.i x,.i y,.i a,.i b]=>Av r c l&&Gk r c x y a b
  | _=>false
def Af.Part.out:List Atom→DV
  | [.i _r,.i c,.l l,.i x,.i y,.i a,.i b]=>.agg [.int .i64 a,.int .i64 b,.ints .fresh .u64 (Bg (Int.toNat a) (Int.toNat b) (fun j1 j2=>Cj c l (x+j1) (y+j2)))]
  | _=>.undef
def Af.Part.spec:Entry:=entry [.st [.i .i64,.i .i64,.s .u64],.i .i64,.i .i64,.i .i64,.i .i64] Af.Part.pre Af.Part.out
def Ai.J9.pre:List Atom→Bool
  | [.l l,.i _i]=>H4 l
  | _=>false
def Ai.J9.out:List Atom→DV
  | [.l l,.i i]=>.int .u64 (Hh l i)
  | _=>.undef
def Ai.J9.spec:Entry:=entry [.s .u32,.i .i64] Ai.J9.pre Ai.J9.out
def Ai.Made.pre:List Atom→Bool
  | [.b _n,.l l]=>H4 l
  | _=>false
def Ai.Made.out:List Atom→DV
  | [.b n,.l l]=>.agg [.bool (Bi (wv n l)),.ints .arg .u32 (Ap (wv n l))]
  | _=>.undef
def Ai.Made.spec:Entry:=entry [.b,.s .u32] Ai.Made.pre Ai.Made.out
def Ai.Of.pre:List Atom→Bool
  | [.i n]=>Aj0 n
  | _=>false
def Ai.Of.out:List Atom→DV
  | [.i n]=>.agg [.bool (Bi (n)),.ints .arg .u32 (Ap (n))]
  | _=>.undef
def Ai.Of.spec:Entry:=entry [.i .i64] Ai.Of.pre Ai.Of.out
def Ai.Jb.pre:List Atom→Bool
  | [.l a,.l b]=>H4 a&&H4 b
  | _=>false
def Ai.Jb.out:List Atom→DV
  | [.l a,.l b]=>.int .i64 (Wf (Cr a) (Cr b))
  | _=>.undef
def Ai.Jb.spec:Entry:=entry [.s .u32,.s .u32] Ai.Jb.pre Ai.Jb.out
def Ai.plus.pre:List Atom→Bool
  | [.l a,.l b]=>H4 a&&H4 b
  | _=>false
def Ai.plus.out:List Atom→DV
  | [.l a,.l b]=>.ints .arg .u32 (Ki a b)
  | _=>.undef
def Ai.plus.spec:Entry:=entry [.s .u32,.s .u32] Ai.plus.pre Ai.plus.out
def Ai.minus.pre:List Atom→Bool
  | [.l a,.l b]=>(H4 a&&H4 b)&&leL b a
  | _=>false
def Ai.minus.out:List Atom→DV
  | [.l a,.l b]=>.ints .arg .u32 (Ht a b)
  | _=>.undef
def Ai.minus.spec:Entry:=entry [.s .u32,.s .u32] Ai.minus.pre Ai.minus.out
def Ai.Add.pre:List Atom→Bool
  | [.b n,.l a,.b m,.l b]=>Jy n a&&Jy m b
  | _=>false
def Ai.Add.out:List Atom→DV
  | [.b n,.l a,.b m,.l b]=>.agg [.bool (Bi (wv n a+wv m b)),.ints .arg .u32 (Ap (wv n a+wv m b))]
  | _=>.undef
def Ai.Add.spec:Entry:=entry [.st [.b,.s .u32],.st [.b,.s .u32]] Ai.Add.pre Ai.Add.out
def Ai.Neg.pre:List Atom→Bool
  | [.b n,.l a]=>Jy n a
  | _=>false
def Ai.Neg.out:List Atom→DV
  | [.b n,.l a]=>.agg [.bool (Bi (- wv n a)),.ints .arg .u32 (Ap (- wv n a))]
  | _=>.undef
def Ai.Neg.spec:Entry:=entry [.st [.b,.s .u32]] Ai.Neg.pre Ai.Neg.out
def Ai.Gi.pre:List Atom→Bool
  | [.b n,.l a]=>Jy n a
  | _=>false
def Ai.Gi.out:List Atom→DV
  | [.b n,.l a]=>.agg [.bool (Bi (2*wv n a)),.ints .arg .u32 (Ap (2*wv n a))]
  | _=>.undef
def Ai.Gi.spec:Entry:=entry [.st [.b,.s .u32]] Ai.Gi.pre Ai.Gi.out
def Ai.Ie.pre:List Atom→Bool
  | [.b n,.l a]=>Jy n a
  | _=>false
def Ai.Ie.out:List Atom→DV
  | [.b n,.l a]=>.agg [.bool (Bi (Ld (wv n a) 1)),.ints .arg .u32 (Ap (Ld (wv n a) 1))]
  | _=>.undef
def Ai.Ie.spec:Entry:=entry [.st [.b,.s .u32]] Ai.Ie.pre Ai.Ie.out
def Ai.Bt.pre:List Atom→Bool
  | [.b n,.l a,.i k]=>Xi n a&&Aur k
  | _=>false
def Ai.Bt.out:List Atom→DV
  | [.b n,.l a,.i k]=>.agg [.bool (Bi (Ha (wv n a) k)),.ints .arg .u32 (Ap (Ha (wv n a) k))]
  | _=>.undef
def Ai.Bt.spec:Entry:=entry [.st [.b,.s .u32],.i .i64] Ai.Bt.pre Ai.Bt.out
def Ai.Rn.pre:List Atom→Bool
  | [.b n,.l a]=>Jy n a
  | _=>false
def Ai.Rn.out:List Atom→DV
  | [.b n,.l a]=>.int .i64 (Y4 (wv n a))
  | _=>.undef
def Ai.Rn.spec:Entry:=entry [.st [.b,.s .u32]] Ai.Rn.pre Ai.Rn.out
def Ai.Xq.pre:List Atom→Bool
  | [.b n,.l a]=>Jy n a
  | _=>false
def Ai.Xq.out:List Atom→DV
  | [.b n,.l a]=>.bool (Alh (wv n a))
  | _=>.undef
def Ai.Xq.spec:Entry:=entry [.st [.b,.s .u32]] Ai.Xq.pre Ai.Xq.out
def Az.Of.pre:List Atom→Bool
  | [.b n,.l a,.i e]=>Jy n a&&Aaf e
  | _=>false
def Az.Of.out:List Atom→DV
  | [.b n,.l a,.i e]=>.agg [.bool (Bi (mD (wv n a))),.ints .arg .u32 (Ap (mD (wv n a))),.int .i64 (eD (wv n a) e)]
  | _=>.undef
def Az.Of.spec:Entry:=entry [.st [.b,.s .u32],.i .i64] Az.Of.pre Az.Of.out
def Az.Neg.pre:List Atom→Bool
  | [.b n,.l a,.i _e]=>Jy n a
  | _=>false
def Az.Neg.out:List Atom→DV
  | [.b n,.l a,.i e]=>.agg [.bool (Bi (- wv n a)),.ints .arg .u32 (Ap (- wv n a)),.int .i64 e]
  | _=>.undef
def Az.Neg.spec:Entry:=entry [.st [.b,.s .u32,.i .i64]] Az.Neg.pre Az.Neg.out
def Az.Xr.pre:List Atom→Bool
  | [.b n,.l a,.i _e,.b m,.l b,.i _f]=>Jy n a&&Jy m b
  | _=>false
def Az.Xr.out:List Atom→DV
  | [.b n,.l a,.i e,.b m,.l b,.i f]=>.int .i64 (C4 (wv n a) e (wv m b) f)
  | _=>.undef
def Az.Xr.spec:Entry:=entry [.st [.b,.s .u32,.i .i64],.st [.b,.s .u32,.i .i64]] Az.Xr.pre Az.Xr.out
def Az.Level.pre:List Atom→Bool
  | [.b n,.l a,.i e,.i f]=>Xi n a&&Afb (wv n a) e f
  | _=>false
def Az.Level.out:List Atom→DV
  | [.b n,.l a,.i e,.i f]=>.agg [.bool (Bi (Ha (wv n a) (e-f))),.ints .arg .u32 (Ap (Ha (wv n a) (e-f)))]
  | _=>.undef
def Az.Level.spec:Entry:=entry [.st [.b,.s .u32,.i .i64],.i .i64] Az.Level.pre Az.Level.out
def Az.Add.pre:List Atom→Bool
  | [.b n,.l a,.i e,.b m,.l b,.i f]=>((Xi n a&&Xi m b)&&W7 e)&&W7 f
  | _=>false
def Az.Add.out:List Atom→DV
  | [.b n,.l a,.i e,.b m,.l b,.i f]=>.agg [.bool (Bi (Rk (wv n a) e (wv m b) f)),.ints .arg .u32 (Ap (Rk (wv n a) e (wv m b) f)),.int .i64 (Aqp (wv n a) e (wv m b) f)]
  | _=>.undef
def Az.Add.spec:Entry:=entry [.st [.b,.s .u32,.i .i64],.st [.b,.s .u32,.i .i64]] Az.Add.pre Az.Add.out
def Az.Sub.pre:List Atom→Bool
  | [.b n,.l a,.i e,.b m,.l b,.i f]=>((Xi n a&&Xi m b)&&W7 e)&&W7 f
  | _=>false
def Az.Sub.out:List Atom→DV
  | [.b n,.l a,.i e,.b m,.l b,.i f]=>.agg [.bool (Bi (Rk (wv n a) e (- wv m b) f)),.ints .arg .u32 (Ap (Rk (wv n a) e (- wv m b) f)),.int .i64 (Aqp (wv n a) e (- wv m b) f)]
  | _=>.undef
def Az.Sub.spec:Entry:=entry [.st [.b,.s .u32,.i .i64],.st [.b,.s .u32,.i .i64]] Az.Sub.pre Az.Sub.out
def Az.W5.pre:List Atom→Bool
  | [.b n,.l a,.i e]=>Jy n a&&W7 e
  | _=>false
def Az.W5.out:List Atom→DV
  | [.b n,.l a,.i e]=>.int .i64 (Iz (wv n a) e)
  | _=>.undef
def Az.W5.spec:Entry:=entry [.st [.b,.s .u32,.i .i64]] Az.W5.pre Az.W5.out
def Az.Sign.pre:List Atom→Bool
  | [.b n,.l a,.i _e]=>Jy n a
  | _=>false
def Az.Sign.out:List Atom→DV
  | [.b n,.l a,.i _e]=>.int .i64 (Nq (wv n a))
  | _=>.undef
def Az.Sign.spec:Entry:=entry [.st [.b,.s .u32,.i .i64]] Az.Sign.pre Az.Sign.out
def Az.Compare.pre:List Atom→Bool
  | [.b n,.l a,.i e,.b m,.l b,.i f]=>((Xi n a&&Xi m b)&&W7 e)&&W7 f
  | _=>false
def Az.Compare.out:List Atom→DV
  | [.b n,.l a,.i e,.b m,.l b,.i f]=>.int .i64 (W9 (wv n a) e (wv m b) f)
  | _=>.undef
def Az.Compare.spec:Entry:=entry [.st [.b,.s .u32,.i .i64],.st [.b,.s .u32,.i .i64]] Az.Compare.pre Az.Compare.out
def A4.Value.pre:List Atom→Bool
  | [.i x]=>Ag x
  | _=>false
def A4.Value.out:List Atom→DV
  | [.i x]=>.agg [.bool (Bi (mD (Fq x))),.ints .arg .u32 (Ap (mD (Fq x))),.int .i64 (eD (Fq x) (Bh x))]
  | _=>.undef
def A4.Value.spec:Entry:=entry [.i .u64] A4.Value.pre A4.Value.out
def compare.Mj.pre:List Atom→Bool
  | [.i b]=>Ag b
  | _=>false
def compare.Mj.out:List Atom→DV
  | [.i b]=>.int .i64 (Aa1 b)
  | _=>.undef
def compare.Mj.spec:Entry:=entry [.i .u64] compare.Mj.pre compare.Mj.out
def compare.Order.pre:List Atom→Bool
  | [.i a,.i b]=>Ag a&&Ag b
  | _=>false
def compare.Order.out:List Atom→DV
  | [.i a,.i b]=>.tup [.int .i64 (Ta a b),.bool (Aa6 a b)]
  | _=>.undef
def compare.Order.spec:Entry:=entry [.i .u64,.i .u64] compare.Order.pre compare.Order.out
def compare.Ms.pre:List Atom→Bool
  | [.i a,.i b]=>Ag a&&Ag b
  | _=>false
def compare.Ms.out:List Atom→DV
  | [.i a,.i b]=>.bool (decide (Ta a b<0))
  | _=>.undef
def compare.Ms.spec:Entry:=entry [.i .u64,.i .u64] compare.Ms.pre compare.Ms.out
def compare.H3.pre:List Atom→Bool
  | [.i a]=>Ag a
  | _=>false
def compare.H3.out:List Atom→DV
  | [.i a]=>.int .u64 (Jq a)
  | _=>.undef
def compare.H3.spec:Entry:=entry [.i .u64] compare.H3.pre compare.H3.out
def compare.Fm.pre:List Atom→Bool
  | [.i a,.i n]=>Dj a n
  | _=>false
def compare.Fm.out:List Atom→DV
  | [.i a,.i n]=>.tup [.int .u64 (By a n),.int .u8 (Ari a n)]
  | _=>.undef
def compare.Fm.spec:Entry:=entry [.i .u64,.i .i64] compare.Fm.pre compare.Fm.out
def Ah.Bt.pre:List Atom→Bool
  | [.i a,.i n]=>Dj a n
  | _=>false
def Ah.Bt.out:List Atom→DV
  | [.i a,.i n]=>.int .u64 (By a n)
  | _=>.undef
def Ah.Bt.spec:Entry:=entry [.i .u64,.i .i64] Ah.Bt.pre Ah.Bt.out
def Ah.Div.pre:List Atom→Bool
  | [.i a,.i b]=>Ag a&&Ag b
  | _=>false
def Ah.Div.out:List Atom→DV
  | [.i a,.i b]=>.int .u64 (Ew a b)
  | _=>.undef
def Ah.Div.spec:Entry:=entry [.i .u64,.i .u64] Ah.Div.pre Ah.Div.out
def Ah.Bq.pre:List Atom→Bool
  | [.l x]=>Cz x
  | _=>false
def Ah.Bq.out:List Atom→DV
  | [.l x]=>.int .u64 (Bf x)
  | _=>.undef
def Ah.Bq.spec:Entry:=entry [.s .u64] Ah.Bq.pre Ah.Bq.out
def Ah.Finite.pre:List Atom→Bool
  | [.l x]=>Cz x
  | _=>false
def Ah.Finite.out:List Atom→DV
  | [.l x]=>.bool (Di x)
  | _=>.undef
def Ah.Finite.spec:Entry:=entry [.s .u64] Ah.Finite.pre Ah.Finite.out
def Cv.Check.pre:List Atom→Bool
  | [.i _r,.i _c,.l l]=>Ae l
  | _=>false
def Cv.Check.out:List Atom→DV
  | [.i r,.i c,.l l]=>.int .i64 (B1 r c l)
  | _=>.undef
def Cv.Check.spec:Entry:=entry [.st [.i .i64,.i .i64,.s .u64]] Cv.Check.pre Cv.Check.out
def solve.check.pre:List Atom→Bool
  | [.i _r,.i _c,.l l,.i _p,.i _q,.l m]=>Ae l&&Ae m
  | _=>false
def solve.check.out:List Atom→DV
  | [.i r,.i c,.l l,.i p,.i q,.l m]=>.int .i64 (Lv r c l p q m)
  | _=>.undef
def solve.check.spec:Entry:=entry [.st [.i .i64,.i .i64,.s .u64],.st [.i .i64,.i .i64,.s .u64]] solve.check.pre solve.check.out
def Dl.Dk.up.pre:List Atom→Bool
  | [.i n,.i k]=>Dh (0≤k∧k<n∧n≤10)
  | _=>false
def Dl.Dk.up.out:List Atom→DV
  | [.i n,.i k]=>.int .i64 (n-1-k)
  | _=>.undef
def Dl.Dk.up.spec:Entry:=entry [.i .i64,.i .i64] Dl.Dk.up.pre Dl.Dk.up.out
def solve.E6.pre:List Atom→Bool
  | [.i _i,.i _k]=>true
  | _=>false
def solve.E6.out:List Atom→DV
  | [.i i,.i k]=>.bool (decide (i<k))
  | _=>.undef
def solve.E6.spec:Entry:=entry [.i .i64,.i .i64] solve.E6.pre solve.E6.out
def Aa.of.Bm.own.pre:List Atom→Bool
  | [.i a,.i b]=>Bn a&&Bn b
  | _=>false
def Aa.of.Bm.own.out:List Atom→DV
  | [.i a,.i b]=>.agg [.int .i64 a,.int .i64 b,.ints (.own 108002 37) .u64 (Bg (Int.toNat a) (Int.toNat b) (fun _ _=>0))]
  | _=>.undef
def Aa.of.Bm.own.spec:Entry:=entry [.i .i64,.i .i64,.fn 205 []] Aa.of.Bm.own.pre Aa.of.Bm.own.out
def Aa.Bm.own.pre:List Atom→Bool
  | [.i a,.i b]=>Bn a&&Bn b
  | _=>false
def Aa.Bm.own.out:List Atom→DV
  | [.i a,.i b]=>.tup [.agg [.int .i64 a,.int .i64 b,.ints (.own 1136 37) .u64 (Bg (Int.toNat a) (Int.toNat b) (fun _ _=>0))],.int .i64 (0:Int)]
  | _=>.undef
def Aa.Bm.own.spec:Entry:=entry [.i .i64,.i .i64] Aa.Bm.own.pre Aa.Bm.own.out
def solve.A2.Up.pre:List Atom→Bool
  | [.i r,.i c,.l l,.i p,.i q,.l m,.i n]=>Qr r c l p q m&&decide (n=r)
  | _=>false
def solve.A2.Up.out:List Atom→DV
  | [.i r,.i c,.l l,.i _p,.i q,.l m,.i _n]=>.tup [.agg [.int .i64 ((G0 r q (upG c l q m (Int.toNat r) (Int.toNat q))).1),.int .i64 ((G0 r q (upG c l q m (Int.toNat r) (Int.toNat q))).2.1),.ints .fresh .u64 ((G0 r q (upG c l q m (Int.toNat r) (Int.toNat q))).2.2.1)],.int .i64 ((G0 r q (upG c l q m (Int.toNat r) (Int.toNat q))).2.2.2)]
  | _=>.undef
def solve.A2.Up.spec:Entry:=entry [.st [.i .i64,.i .i64,.s .u64],.st [.i .i64,.i .i64,.s .u64],.fm 103 [.i .i64],.fn 104 []] solve.A2.Up.pre solve.A2.Up.out
def solve.Cp.pre:List Atom→Bool
  | [.i _r,.i _c,.l l,.i _p,.i _q,.l m]=>Ae l&&Ae m
  | _=>false
def solve.Cp.out:List Atom→DV
  | [.i r,.i c,.l l,.i p,.i q,.l m]=>.tup [.agg [.int .i64 ((Wm r c l p q m).1),.int .i64 ((Wm r c l p q m).2.1),.ints .fresh .u64 ((Wm r c l p q m).2.2.1)],.int .i64 ((Wm r c l p q m).2.2.2)]
  | _=>.undef
def solve.Cp.spec:Entry:=entry [.st [.i .i64,.i .i64,.s .u64],.st [.i .i64,.i .i64,.s .u64]] solve.Cp.pre solve.Cp.out
def solve.Flat.pre:List Atom→Bool
  | [.i _r,.i _c,.l l]=>Ae l
  | _=>false
def solve.Flat.out:List Atom→DV
  | [.i r,.i c,.l l]=>.tup [.bool ((Ko r c l).1),.int .i64 ((Ko r c l).2)]
  | _=>.undef
def solve.Flat.spec:Entry:=entry [.st [.i .i64,.i .i64,.s .u64]] solve.Flat.pre solve.Flat.out
def qr.Gb.pre:List Atom→Bool
  | [.i _r,.i _c,.l l,.i _p,.i _q,.l m]=>Ae l&&Ae m
  | _=>false
def qr.Gb.out:List Atom→DV
  | [.i r,.i c,.l l,.i p,.i q,.l m]=>.tup [.agg [.int .i64 ((Dm r c l p q m).1),.int .i64 ((Dm r c l p q m).2.1),.ints .fresh .u64 ((Dm r c l p q m).2.2.1)],.int .i64 ((Dm r c l p q m).2.2.2)]
  | _=>.undef
def qr.Gb.spec:Entry:=entry [.st [.i .i64,.i .i64,.s .u64],.st [.i .i64,.i .i64,.s .u64]] qr.Gb.pre qr.Gb.out
def Ak.Div.pre:List Atom→Bool
  | [.i a,.i b]=>Ag a&&Ag b
  | _=>false
def Ak.Div.out:List Atom→DV
  | [.i a,.i b]=>.int .u64 (Ew a b)
  | _=>.undef
def Ak.Div.spec:Entry:=entry [.i .u64,.i .u64] Ak.Div.pre Ak.Div.out
def Ak.Finite.pre:List Atom→Bool
  | [.l x]=>Cz x
  | _=>false
def Ak.Finite.out:List Atom→DV
  | [.l x]=>.bool (Di x)
  | _=>.undef
def Ak.Finite.spec:Entry:=entry [.s .u64] Ak.Finite.pre Ak.Finite.out
def Gw.Check.pre:List Atom→Bool
  | [.i _r,.i _c,.l l]=>Ae l
  | _=>false
def Gw.Check.out:List Atom→DV
  | [.i r,.i c,.l l]=>.int .i64 (B1 r c l)
  | _=>.undef
def Gw.Check.spec:Entry:=entry [.st [.i .i64,.i .i64,.s .u64]] Gw.Check.pre Gw.Check.out
def A0.Check.pre:List Atom→Bool
  | [.i _r,.i _c,.l l,.i _p,.i _q,.l m]=>Ae l&&Ae m
  | _=>false
def A0.Check.out:List Atom→DV
  | [.i r,.i c,.l l,.i p,.i q,.l m]=>.int .i64 (Lv r c l p q m)
  | _=>.undef
def A0.Check.spec:Entry:=entry [.st [.i .i64,.i .i64,.s .u64],.st [.i .i64,.i .i64,.s .u64]] A0.Check.pre A0.Check.out
def A0.finite.pre:List Atom→Bool
  | [.i r,.i c,.l l]=>Ae l&&Av r c l
  | _=>false
def A0.finite.out:List Atom→DV
  | [.i r,.i c,.l l]=>.tup [.agg [.int .i64 ((G0 r c l).1),.int .i64 ((G0 r c l).2.1),.ints .arg .u64 ((G0 r c l).2.2.1)],.int .i64 ((G0 r c l).2.2.2)]
  | _=>.undef
def A0.finite.spec:Entry:=entry [.st [.i .i64,.i .i64,.s .u64]] A0.finite.pre A0.finite.out
def A0.Cp.pre:List Atom→Bool
  | [.i _r,.i _c,.l l,.i _p,.i _q,.l m]=>Ae l&&Ae m
  | _=>false
def A0.Cp.out:List Atom→DV
  | [.i r,.i c,.l l,.i p,.i q,.l m]=>.tup [.agg [.int .i64 ((Wm r c l p q m).1),.int .i64 ((Wm r c l p q m).2.1),.ints .arg .u64 ((Wm r c l p q m).2.2.1)],.int .i64 ((Wm r c l p q m).2.2.2)]
  | _=>.undef
def A0.Cp.spec:Entry:=entry [.st [.i .i64,.i .i64,.s .u64],.st [.i .i64,.i .i64,.s .u64]] A0.Cp.pre A0.Cp.out
def math.H3.pre:List Atom→Bool
  | [.f _x]=>true
  | _=>false
def math.H3.out:List Atom→DV
  | [.f x]=>.fl (Hl x)
  | _=>.undef
def math.H3.spec:Entry:=entry [.fl] math.H3.pre math.H3.out
def math.Iu.pre:List Atom→Bool
  | [.f x]=>Tt x
  | _=>false
def math.Iu.out:List Atom→DV
  | [.f x]=>.bool (decide (An x=4))
  | _=>.undef
def math.Iu.spec:Entry:=entry [.fl] math.Iu.pre math.Iu.out
def math.Iv.pre:List Atom→Bool
  | [.f x,.i s]=>Tt x&&decide (s=0)
  | _=>false
def math.Iv.out:List Atom→DV
  | [.f x,.i _s]=>.bool (decide (An x=3))
  | _=>.undef
def math.Iv.spec:Entry:=entry [.fl,.i .i64] math.Iv.pre math.Iv.out
def math.normalize.pre:List Atom→Bool
  | [.f x]=>Af9 x
  | _=>false
def math.normalize.out:List Atom→DV
  | [.f x]=>.tup [.fl (Mk x),.int .i64 (Ji x)]
  | _=>.undef
def math.normalize.spec:Entry:=entry [.fl] math.normalize.pre math.normalize.out
def math.Ec.pre:List Atom→Bool
  | [.f x,.f y]=>Af9 y&&decide (x=0)
  | _=>false
def math.Ec.out:List Atom→DV
  | [.f _x,.f y]=>.fl (Bk (Bu y) 0)
  | _=>.undef
def math.Ec.spec:Entry:=entry [.fl,.fl] math.Ec.pre math.Ec.out
def math.Xs.pre:List Atom→Bool
  | [.i _s]=>true
  | _=>false
def math.Xs.out:List Atom→DV
  | [.i s]=>.fl (Bk (decide (s<0)) Ee)
  | _=>.undef
def math.Xs.spec:Entry:=entry [.i .i64] math.Xs.pre math.Xs.out
def math.Hp.pre:List Atom→Bool
  | [.f x,.i k]=>Tt x&&Dh (-2300≤k∧k≤2300)
  | _=>false
def math.Hp.out:List Atom→DV
  | [.f x,.i k]=>.fl (I6 x k)
  | _=>.undef
def math.Hp.spec:Entry:=entry [.fl,.i .i64] math.Hp.pre math.Hp.out
def math.Jc.pre:List Atom→Bool
  | [.f x,.i k]=>Tt x&&Dh (-2300≤k∧k≤2300)
  | _=>false
def math.Jc.out:List Atom→DV
  | [.f x,.i k]=>.fl (I6 x k)
  | _=>.undef
def math.Jc.spec:Entry:=entry [.fl,.i .i64] math.Jc.pre math.Jc.out
def Ak.Bt.pre:List Atom→Bool
  | [.i a,.i k]=>Dj a k
  | _=>false
def Ak.Bt.out:List Atom→DV
  | [.i a,.i k]=>.int .u64 (By a k)
  | _=>.undef
def Ak.Bt.spec:Entry:=entry [.i .u64,.i .i64] Ak.Bt.pre Ak.Bt.out
def Br.ends.pre:List Atom→Bool
  | [.i b]=>Ag b
  | _=>false
def Br.ends.out:List Atom→DV
  | [.i b]=>.int .i64 (Rb b)
  | _=>.undef
def Br.ends.spec:Entry:=entry [.i .u64] Br.ends.pre Br.ends.out
def Br.Order.pre:List Atom→Bool
  | [.i a,.i b]=>Ag a&&Ag b
  | _=>false
def Br.Order.out:List Atom→DV
  | [.i a,.i b]=>.tup [.int .i64 (Ta a b),.bool (Aa6 a b)]
  | _=>.undef
def Br.Order.spec:Entry:=entry [.i .u64,.i .u64] Br.Order.pre Br.Order.out
def Br.H3.pre:List Atom→Bool
  | [.i a]=>Ag a
  | _=>false
def Br.H3.out:List Atom→DV
  | [.i a]=>.int .u64 (Jq a)
  | _=>.undef
def Br.H3.spec:Entry:=entry [.i .u64] Br.H3.pre Br.H3.out
def Br.Max.pre:List Atom→Bool
  | [.i a,.i b]=>Ag a&&Ag b
  | _=>false
def Br.Max.out:List Atom→DV
  | [.i a,.i b]=>.int .u64 (O6 a b)
  | _=>.undef
def Br.Max.spec:Entry:=entry [.i .u64,.i .u64] Br.Max.pre Br.Max.out
def Dl.Dk.down.pre:List Atom→Bool
  | [.i _n,.i _k]=>true
  | _=>false
def Dl.Dk.down.out:List Atom→DV
  | [.i _n,.i k]=>.int .i64 k
  | _=>.undef
def Dl.Dk.down.spec:Entry:=entry [.i .i64,.i .i64] Dl.Dk.down.pre Dl.Dk.down.out
def solve.E8.pre:List Atom→Bool
  | [.i _i,.i _k]=>true
  | _=>false
def solve.E8.out:List Atom→DV
  | [.i i,.i k]=>.bool (decide (k<i))
  | _=>.undef
def solve.E8.spec:Entry:=entry [.i .i64,.i .i64] solve.E8.pre solve.E8.out
def solve.A2.Lo.pre:List Atom→Bool
  | [.i r,.i c,.l l,.i p,.i q,.l m,.i n]=>Qr r c l p q m&&decide (n=r)
  | _=>false
def solve.A2.Lo.out:List Atom→DV
  | [.i r,.i c,.l l,.i _p,.i q,.l m,.i _n]=>.tup [.agg [.int .i64 ((G0 r q (loG c l q m (Int.toNat r) (Int.toNat q))).1),.int .i64 ((G0 r q (loG c l q m (Int.toNat r) (Int.toNat q))).2.1),.ints .fresh .u64 ((G0 r q (loG c l q m (Int.toNat r) (Int.toNat q))).2.2.1)],.int .i64 ((G0 r q (loG c l q m (Int.toNat r) (Int.toNat q))).2.2.2)]
  | _=>.undef
def solve.A2.Lo.spec:Entry:=entry [.st [.i .i64,.i .i64,.s .u64],.st [.i .i64,.i .i64,.s .u64],.fm 77 [.i .i64],.fn 78 []] solve.A2.Lo.pre solve.A2.Lo.out
def solve.Cs.pre:List Atom→Bool
  | [.i _r,.i _c,.l l,.i _p,.i _q,.l m]=>Ae l&&Ae m
  | _=>false
def solve.Cs.out:List Atom→DV
  | [.i r,.i c,.l l,.i p,.i q,.l m]=>.tup [.agg [.int .i64 ((Qh r c l p q m).1),.int .i64 ((Qh r c l p q m).2.1),.ints .fresh .u64 ((Qh r c l p q m).2.2.1)],.int .i64 ((Qh r c l p q m).2.2.2)]
  | _=>.undef
def solve.Cs.spec:Entry:=entry [.st [.i .i64,.i .i64,.s .u64],.st [.i .i64,.i .i64,.s .u64]] solve.Cs.pre solve.Cs.out
def A0.Cs.pre:List Atom→Bool
  | [.i _r,.i _c,.l l,.i _p,.i _q,.l m]=>Ae l&&Ae m
  | _=>false
def A0.Cs.out:List Atom→DV
  | [.i r,.i c,.l l,.i p,.i q,.l m]=>.tup [.agg [.int .i64 ((Qh r c l p q m).1),.int .i64 ((Qh r c l p q m).2.1),.ints .arg .u64 ((Qh r c l p q m).2.2.1)],.int .i64 ((Qh r c l p q m).2.2.2)]
  | _=>.undef
def A0.Cs.spec:Entry:=entry [.st [.i .i64,.i .i64,.s .u64],.st [.i .i64,.i .i64,.s .u64]] A0.Cs.pre A0.Cs.out
def A0.Flat.pre:List Atom→Bool
  | [.i r,.i c,.l l]=>(Av r c l&&Ae l)&&Di l
  | _=>false
def A0.Flat.out:List Atom→DV
  | [.i r,.i c,.l l]=>.bool (Nh r c l)
  | _=>.undef
def A0.Flat.spec:Entry:=entry [.st [.i .i64,.i .i64,.s .u64]] A0.Flat.pre A0.Flat.out
def root.G9.pre:List Atom→Bool
  | [.i m]=>Dh (0≤m∧m<9223372036854775808)
  | _=>false
def root.G9.out:List Atom→DV
  | [.i m]=>.tup [.int .u64 (Uw m),.bool (Ux m)]
  | _=>.undef
def root.G9.spec:Entry:=entry [.i .u64] root.G9.pre root.G9.out
def root.Sqrt.pre:List Atom→Bool
  | [.i a]=>Ag a
  | _=>false
def root.Sqrt.out:List Atom→DV
  | [.i a]=>.tup [.int .u64 (F8 a),.int .u8 (Qt a)]
  | _=>.undef
def root.Sqrt.spec:Entry:=entry [.i .u64] root.Sqrt.pre root.Sqrt.out
def Ah.Sqrt.pre:List Atom→Bool
  | [.i a]=>Ag a
  | _=>false
def Ah.Sqrt.out:List Atom→DV
  | [.i a]=>.int .u64 (F8 a)
  | _=>.undef
def Ah.Sqrt.spec:Entry:=entry [.i .u64] Ah.Sqrt.pre Ah.Sqrt.out
def compare.L4.pre:List Atom→Bool
  | [.i a]=>Ag a
  | _=>false
def compare.L4.out:List Atom→DV
  | [.i a]=>.int .i64 (Bs a)
  | _=>.undef
def compare.L4.spec:Entry:=entry [.i .u64] compare.L4.pre compare.L4.out
def Ah.Norm.pre:List Atom→Bool
  | [.l x]=>Cz x&&Dh (List.length x≤64)
  | _=>false
def Ah.Norm.out:List Atom→DV
  | [.l x]=>.tup [.int .u64 (Dq x),.int .i64 (0:Int)]
  | _=>.undef
def Ah.Norm.spec:Entry:=entry [.s .u64] Ah.Norm.pre Ah.Norm.out
def As.Bz.pre:List Atom→Bool
  | [.l x]=>Cz x
  | _=>false
def As.Bz.out:List Atom→DV
  | [.l x]=>.bool (Eh x)
  | _=>.undef
def As.Bz.spec:Entry:=entry [.s .u64] As.Bz.pre As.Bz.out
def As.lead.pre:List Atom→Bool
  | [.l x]=>Cz x
  | _=>false
def As.lead.out:List Atom→DV
  | [.l x]=>.int .u64 (O8 x)
  | _=>.undef
def As.lead.spec:Entry:=entry [.s .u64] As.lead.pre As.lead.out
def As.Dr.pre:List Atom→Bool
  | [.l x,.i k]=>Cz x&&Dh (List.length x≤1000∧-2300≤k∧k≤2300)
  | _=>false
def As.Dr.out:List Atom→DV
  | [.l x,.i k]=>.ints .fresh .u64 (Bo x k)
  | _=>.undef
def As.Dr.spec:Entry:=entry [.s .u64,.i .i64] As.Dr.pre As.Dr.out
def As.Gg.pre:List Atom→Bool
  | [.i _i]=>true
  | _=>false
def As.Gg.out:List Atom→DV
  | [.i _i]=>.int .u64 (0:Int)
  | _=>.undef
def As.Gg.spec:Entry:=entry [.i .i64] As.Gg.pre As.Gg.out
def As.Gf.pre:List Atom→Bool
  | [.i i,.l y,.i d]=>(Dh (0≤i∧i<List.length y)&&Ae y)&&Ag d
  | _=>false
def As.Gf.out:List Atom→DV
  | [.i i,.l y,.i d]=>.int .u64 (Ew (List.getD y (Int.toNat i) 0) d)
  | _=>.undef
def As.Gf.spec:Entry:=entry [.i .i64,.cp [.s .u64],.cp [.i .u64]] As.Gf.pre As.Gf.out
def As.row.Zero.pre:List Atom→Bool
  | [.i n]=>Dh (1≤n∧n≤64)
  | _=>false
def As.row.Zero.out:List Atom→DV
  | [.i n]=>.ints .fresh .u64 (Jp (Int.toNat n) (fun _=>0))
  | _=>.undef
def As.row.Zero.spec:Entry:=entry [.i .i64,.fn 254 []] As.row.Zero.pre As.row.Zero.out
def As.row.Div.pre:List Atom→Bool
  | [.i n,.l y,.i d]=>(Dh (1≤n∧n≤64∧n=List.length y)&&Ae y)&&Ag d
  | _=>false
def As.row.Div.out:List Atom→DV
  | [.i n,.l y,.i d]=>.ints .fresh .u64 (Jp (Int.toNat n) (fun j=>Ew (List.getD y j 0) d))
  | _=>.undef
def As.row.Div.spec:Entry:=entry [.i .i64,.fn 259 [.cp [.s .u64],.cp [.i .u64]]] As.row.Div.pre As.row.Div.out
def As.Dy.pre:List Atom→Bool
  | [.l x]=>Cz x
  | _=>false
def As.Dy.out:List Atom→DV
  | [.l x]=>.tup [.ints .fresh .u64 ((Ck x).1),.int .u64 ((Ck x).2.1),.int .u64 ((Ck x).2.2.1),.int .i64 ((Ck x).2.2.2)]
  | _=>.undef
def As.Dy.spec:Entry:=entry [.s .u64] As.Dy.pre As.Dy.out
def As.Apply.pre:List Atom→Bool
  | [.i r,.i c,.l l,.i i,.i k,.l v,.i t]=>((Av r c l&&H0 r c i k v)&&(Ae l&&Ae v))&&Ag t
  | _=>false
def As.Apply.out:List Atom→DV
  | [.i r,.i c,.l l,.i i,.i k,.l v,.i t]=>.tup [.agg [.int .i64 r,.int .i64 c,.ints (.own 114002 37) .u64 (Fo (Int.toNat r) (Int.toNat c) l i k v t)],.int .i64 (0:Int)]
  | _=>.undef
def As.Apply.spec:Entry:=entry [.st [.i .i64,.i .i64,.s .u64],.i .i64,.i .i64,.s .u64,.i .u64] As.Apply.pre As.Apply.out
def qr.down.pre:List Atom→Bool
  | [.i r,.i c,.l l]=>(Av r c l&&Di l)&&Ae l
  | _=>false
def qr.down.out:List Atom→DV
  | [.i r,.i c,.l l]=>.tup [.agg [.int .i64 ((Gn r c l).1),.int .i64 ((Gn r c l).2.1),.ints .arg .u64 ((Gn r c l).2.2.1)],.recs .fresh 2 (K6 r c l),.int .i64 ((Gn r c l).2.2.2)]
  | _=>.undef
def qr.down.spec:Entry:=entry [.st [.i .i64,.i .i64,.s .u64]] qr.down.pre qr.down.out
def qr.B0.pre:List Atom→Bool
  | [.i _r,.i _c,.l l]=>Ae l
  | _=>false
def qr.B0.out:List Atom→DV
  | [.i r,.i c,.l l]=>.tup [.agg [.int .i64 ((qX r c l).1),.int .i64 ((qX r c l).2.1),.ints .arg .u64 ((qX r c l).2.2.1)],.agg [.int .i64 ((rX r c l).1),.int .i64 ((rX r c l).2.1),.ints .arg .u64 ((rX r c l).2.2.1)],.int .i64 (Ei r c l)]
  | _=>.undef
def qr.B0.spec:Entry:=entry [.st [.i .i64,.i .i64,.s .u64]] qr.B0.pre qr.B0.out
def qr.Gq.pre:List Atom→Bool
  | [.i _r,.i _c,.l l]=>Ae l
  | _=>false
def qr.Gq.out:List Atom→DV
  | [.i r,.i c,.l l]=>.tup [.agg [.int .i64 ((Ed r c l).1),.int .i64 ((Ed r c l).2.1),.ints .fresh .u64 ((Ed r c l).2.2.1)],.agg [.int .i64 ((H9 r c l).1),.int .i64 ((H9 r c l).2.1),.ints .fresh .u64 ((H9 r c l).2.2.1)],.int .i64 (Ei r c l)]
  | _=>.undef
def qr.Gq.spec:Entry:=entry [.st [.i .i64,.i .i64,.s .u64]] qr.Gq.pre qr.Gq.out
def solve.Eb.pre:List Atom→Bool
  | [.i _r,.i _c,.l l,.i _p,.i _q,.l m]=>Ae l&&Ae m
  | _=>false
def solve.Eb.out:List Atom→DV
  | [.i r,.i c,.l l,.i p,.i q,.l m]=>.tup [.agg [.int .i64 ((Em r c l p q m).1),.int .i64 ((Em r c l p q m).2.1),.ints .fresh .u64 ((Em r c l p q m).2.2.1)],.int .i64 ((Em r c l p q m).2.2.2)]
  | _=>.undef
def solve.Eb.spec:Entry:=entry [.st [.i .i64,.i .i64,.s .u64],.st [.i .i64,.i .i64,.s .u64]] solve.Eb.pre solve.Eb.out
def Br.L4.pre:List Atom→Bool
  | [.i a]=>Ag a
  | _=>false
def Br.L4.out:List Atom→DV
  | [.i a]=>.int .i64 (Bs a)
  | _=>.undef
def Br.L4.spec:Entry:=entry [.i .u64] Br.L4.pre Br.L4.out
def Ak.Bq.pre:List Atom→Bool
  | [.l x]=>Cz x
  | _=>false
def Ak.Bq.out:List Atom→DV
  | [.l x]=>.int .u64 (Bf x)
  | _=>.undef
def Ak.Bq.spec:Entry:=entry [.s .u64] Ak.Bq.pre Ak.Bq.out
def math.Sqrt.pre:List Atom→Bool
  | [.f _x]=>true
  | _=>false
def math.Sqrt.out:List Atom→DV
  | [.f x]=>.fl (((Ieee.double.sqrt x).getD nanBits))
  | _=>.undef
def math.Sqrt.spec:Entry:=entry [.fl] math.Sqrt.pre math.Sqrt.out
def Ak.Sqrt.pre:List Atom→Bool
  | [.i a]=>Ag a
  | _=>false
def Ak.Sqrt.out:List Atom→DV
  | [.i a]=>.int .u64 (F8 a)
  | _=>.undef
def Ak.Sqrt.spec:Entry:=entry [.i .u64] Ak.Sqrt.pre Ak.Sqrt.out
def Ak.Norm.pre:List Atom→Bool
  | [.l x]=>Cz x
  | _=>false
def Ak.Norm.out:List Atom→DV
  | [.l x]=>.int .u64 (Dq x)
  | _=>.undef
def Ak.Norm.spec:Entry:=entry [.s .u64] Ak.Norm.pre Ak.Norm.out
def Bc.Bz.pre:List Atom→Bool
  | [.l x]=>Cz x
  | _=>false
def Bc.Bz.out:List Atom→DV
  | [.l x]=>.bool (Eh (List.drop 1 x))
  | _=>.undef
def Bc.Bz.spec:Entry:=entry [.s .u64] Bc.Bz.pre Bc.Bz.out
def Bc.lead.pre:List Atom→Bool
  | [.l x]=>Cz x
  | _=>false
def Bc.lead.out:List Atom→DV
  | [.l x]=>.int .i64 (Qi x 0)
  | _=>.undef
def Bc.lead.spec:Entry:=entry [.s .u64] Bc.lead.pre Bc.lead.out
def Bc.Dy.pre:List Atom→Bool
  | [.l x]=>Cz x&&Dh (1≤List.length x∧List.length x≤64)
  | _=>false
def Bc.Dy.out:List Atom→DV
  | [.l x]=>.tup [.agg [.ints .fresh .u64 ((Jz x).1),.int .u64 ((Jz x).2.1),.int .u64 ((Jz x).2.2.1)],.bool (decide ((Jz x).2.2.2=0))]
  | _=>.undef
def Bc.Dy.spec:Entry:=entry [.s .u64] Bc.Dy.pre Bc.Dy.out
def Bc.Apply.pre:List Atom→Bool
  | [.i r,.i c,.l l,.i i,.i k,.l v,.i t]=>((Av r c l&&H0 r c i k v)&&(Ae l&&Ae v))&&Ag t
  | _=>false
def Bc.Apply.out:List Atom→DV
  | [.i r,.i c,.l l,.i i,.i k,.l v,.i t]=>.agg [.int .i64 r,.int .i64 c,.ints .arg .u64 (Fo (Int.toNat r) (Int.toNat c) l i k v t)]
  | _=>.undef
def Bc.Apply.spec:Entry:=entry [.st [.i .i64,.i .i64,.s .u64],.i .i64,.i .i64,.s .u64,.i .u64] Bc.Apply.pre Bc.Apply.out
def B4.Ds.pre:List Atom→Bool
  | [.i r,.i c,.l l,.i j,.i _b]=>Av r c l&&Dh (0≤j∧j<r∧j<c)
  | _=>false
def B4.Ds.out:List Atom→DV
  | [.i r,.i c,.l l,.i j,.i b]=>.agg [.int .i64 r,.int .i64 c,.ints .arg .u64 (Nk (Int.toNat r) (Int.toNat c) l (Int.toNat j) b)]
  | _=>.undef
def B4.Ds.spec:Entry:=entry [.st [.i .i64,.i .i64,.s .u64],.i .i64,.i .u64] B4.Ds.pre B4.Ds.out
def B4.B0.pre:List Atom→Bool
  | [.i r,.i c,.l l]=>(Av r c l&&Di l)&&Ae l
  | _=>false
def B4.B0.out:List Atom→DV
  | [.i r,.i c,.l l]=>.agg [.int .i64 ((qX r c l).1),.int .i64 ((qX r c l).2.1),.ints .arg .u64 ((qX r c l).2.2.1),.int .i64 ((rX r c l).1),.int .i64 ((rX r c l).2.1),.ints .arg .u64 ((rX r c l).2.2.1),.bool (decide (Ei r c l=0))]
  | _=>.undef
def B4.B0.spec:Entry:=entry [.st [.i .i64,.i .i64,.s .u64]] B4.B0.pre B4.B0.out
def B4.Gq.pre:List Atom→Bool
  | [.i r,.i c,.l l]=>(Av r c l&&Di l)&&Ae l
  | _=>false
def B4.Gq.out:List Atom→DV
  | [.i r,.i c,.l l]=>.agg [.int .i64 ((Ed r c l).1),.int .i64 ((Ed r c l).2.1),.ints .arg .u64 ((Ed r c l).2.2.1),.int .i64 ((H9 r c l).1),.int .i64 ((H9 r c l).2.1),.ints .arg .u64 ((H9 r c l).2.2.1),.bool (decide (Ei r c l=0))]
  | _=>.undef
def B4.Gq.spec:Entry:=entry [.st [.i .i64,.i .i64,.s .u64]] B4.Gq.pre B4.Gq.out
def A0.Eb.pre:List Atom→Bool
  | [.i _r,.i _c,.l l,.i _p,.i _q,.l m]=>Ae l&&Ae m
  | _=>false
def A0.Eb.out:List Atom→DV
  | [.i r,.i c,.l l,.i p,.i q,.l m]=>.tup [.agg [.int .i64 ((Em r c l p q m).1),.int .i64 ((Em r c l p q m).2.1),.ints .arg .u64 ((Em r c l p q m).2.2.1)],.int .i64 ((Em r c l p q m).2.2.2)]
  | _=>.undef
def A0.Eb.spec:Entry:=entry [.st [.i .i64,.i .i64,.s .u64],.st [.i .i64,.i .i64,.s .u64]] A0.Eb.pre A0.Eb.out
def Dw.Check.pre:List Atom→Bool
  | [.i _r,.i _c,.l l,.i _p,.i _q,.l m,.i _a,.i _b,.l g,.i _u,.i _v,.l h]=>Qf l m g h
  | _=>false
def Dw.Check.out:List Atom→DV
  | [.i r,.i c,.l l,.i p,.i q,.l m,.i a,.i b,.l g,.i u,.i v,.l h]=>.int .i64 (Kf r c l p q m a b g u v h)
  | _=>.undef
def Dw.Check.spec:Entry:=entry [.st [.i .i64,.i .i64,.s .u64,.i .i64,.i .i64,.s .u64,.i .i64,.i .i64,.s .u64,.i .i64,.i .i64,.s .u64]] Dw.Check.pre Dw.Check.out
def Dw.finite.pre:List Atom→Bool
  | [.i _r,.i _c,.l l,.i _e]=>Ae l
  | _=>false
def Dw.finite.out:List Atom→DV
  | [.i r,.i c,.l l,.i e]=>.tup [.agg [.int .i64 ((Ic r c l e).1),.int .i64 ((Ic r c l e).2.1),.ints .arg .u64 ((Ic r c l e).2.2.1)],.int .i64 ((Ic r c l e).2.2.2)]
  | _=>.undef
def Dw.finite.spec:Entry:=entry [.st [.i .i64,.i .i64,.s .u64],.i .i64] Dw.finite.pre Dw.finite.out
def Dw.held.pre:List Atom→Bool
  | [.i r,.i c,.l l,.i p,.i q,.l m,.i a,.i b,.l g,.i u,.i v,.l h]=>Qf l m g h&&decide (Kf r c l p q m a b g u v h=0)
  | _=>false
def Dw.held.out:List Atom→DV
  | [.i _r,.i _c,.l _l,.i p,.i q,.l m,.i _a,.i _b,.l _g,.i u,.i v,.l h]=>.tup [.agg [.int .i64 ((hQ p q m).1),.int .i64 ((hQ p q m).2.1),.ints .arg .u64 ((hQ p q m).2.2.1)],.agg [.int .i64 ((hY p q m u v h).1),.int .i64 ((hY p q m u v h).2.1),.ints .fresh .u64 ((hY p q m u v h).2.2.1)],.int .i64 ((hY p q m u v h).2.2.2)]
  | _=>.undef
def Dw.held.spec:Entry:=entry [.st [.i .i64,.i .i64,.s .u64,.i .i64,.i .i64,.s .u64,.i .i64,.i .i64,.s .u64,.i .i64,.i .i64,.s .u64]] Dw.held.pre Dw.held.out
def Dw.Solve.pre:List Atom→Bool
  | [.i _r,.i _c,.l l,.i _p,.i _q,.l m,.i _a,.i _b,.l g,.i _u,.i _v,.l h]=>Qf l m g h
  | _=>false
def Dw.Solve.out:List Atom→DV
  | [.i r,.i c,.l l,.i p,.i q,.l m,.i a,.i b,.l g,.i u,.i v,.l h]=>.tup [.agg [.int .i64 ((D7 r c l p q m a b g u v h).1),.int .i64 ((D7 r c l p q m a b g u v h).2.1),.ints .arg .u64 ((D7 r c l p q m a b g u v h).2.2.1)],.int .i64 ((D7 r c l p q m a b g u v h).2.2.2)]
  | _=>.undef
def Dw.Solve.spec:Entry:=entry [.st [.i .i64,.i .i64,.s .u64,.i .i64,.i .i64,.s .u64,.i .i64,.i .i64,.s .u64,.i .i64,.i .i64,.s .u64]] Dw.Solve.pre Dw.Solve.out
def Af.Bm.own.pre:List Atom→Bool
  | [.i a,.i b]=>Bn a&&Bn b
  | _=>false
def Af.Bm.own.out:List Atom→DV
  | [.i a,.i b]=>.agg [.int .i64 a,.int .i64 b,.ints (.own 10 37) .u64 (Bg (Int.toNat a) (Int.toNat b) (fun _ _=>0))]
  | _=>.undef
def Af.Bm.own.spec:Entry:=entry [.i .i64,.i .i64] Af.Bm.own.pre Af.Bm.own.out
def Af.Sub.pre:List Atom→Bool
  | [.i r,.i c,.l l,.i p,.i q,.l m]=>(Av r c l&&Av p q m)&&((Ae l&&Ae m)&&decide (p=r∧q=c))
  | _=>false
def Af.Sub.out:List Atom→DV
  | [.i r,.i c,.l l,.i _p,.i q,.l m]=>.agg [.int .i64 r,.int .i64 c,.ints .fresh .u64 (Bg (Int.toNat r) (Int.toNat c) (fun j1 j2=>Db (Cj c l j1 j2) (Cj q m j1 j2)))]
  | _=>.undef
def Af.Sub.spec:Entry:=entry [.st [.i .i64,.i .i64,.s .u64],.st [.i .i64,.i .i64,.s .u64]] Af.Sub.pre Af.Sub.out
def Af.Stack.pre:List Atom→Bool
  | [.i r,.i c,.l l,.i p,.i q,.l m]=>(Av r c l&&Av p q m)&&decide (q=c)
  | _=>false
def Af.Stack.out:List Atom→DV
  | [.i r,.i c,.l l,.i p,.i _q,.l m]=>.agg [.int .i64 (r+p),.int .i64 c,.ints .fresh .u64 (l++m)]
  | _=>.undef
def Af.Stack.spec:Entry:=entry [.st [.i .i64,.i .i64,.s .u64],.st [.i .i64,.i .i64,.s .u64]] Af.Stack.pre Af.Stack.out
def B7.Check.pre:List Atom→Bool
  | [.i _r,.i _c,.l l,.i _p,.i _q,.l m,.i _a,.i _b,.l g,.i _u,.i _v,.l h]=>Qf l m g h
  | _=>false
def B7.Check.out:List Atom→DV
  | [.i r,.i c,.l l,.i p,.i q,.l m,.i a,.i b,.l g,.i u,.i v,.l h]=>.int .i64 (Kf r c l p q m a b g u v h)
  | _=>.undef
def B7.Check.spec:Entry:=entry [.st [.i .i64,.i .i64,.s .u64,.i .i64,.i .i64,.s .u64,.i .i64,.i .i64,.s .u64,.i .i64,.i .i64,.s .u64]] B7.Check.pre B7.Check.out
def B7.Solve.pre:List Atom→Bool
  | [.i _r,.i _c,.l l,.i _p,.i _q,.l m,.i _a,.i _b,.l g,.i _u,.i _v,.l h]=>Qf l m g h
  | _=>false
def B7.Solve.out:List Atom→DV
  | [.i r,.i c,.l l,.i p,.i q,.l m,.i a,.i b,.l g,.i u,.i v,.l h]=>.tup [.agg [.int .i64 ((D7 r c l p q m a b g u v h).1),.int .i64 ((D7 r c l p q m a b g u v h).2.1),.ints .arg .u64 ((D7 r c l p q m a b g u v h).2.2.1)],.int .i64 ((D7 r c l p q m a b g u v h).2.2.2)]
  | _=>.undef
def B7.Solve.spec:Entry:=entry [.st [.i .i64,.i .i64,.s .u64,.i .i64,.i .i64,.s .u64,.i .i64,.i .i64,.s .u64,.i .i64,.i .i64,.s .u64]] B7.Solve.pre B7.Solve.out
def Cc.one.pre:List Atom→Bool
  | [.i _b]=>true
  | _=>false
def Cc.one.out:List Atom→DV
  | [.i b]=>.agg [.int .i64 (1:Int),.int .i64 (1:Int),.ints .fresh .u64 ([b])]
  | _=>.undef
def Cc.one.spec:Entry:=entry [.i .u64] Cc.one.pre Cc.one.out
def Cc.Ip.pre:List Atom→Bool
  | []=>true
  | _=>false
def Cc.Ip.out:List Atom→DV
  | []=>.bool true
  | _=>.undef
def Cc.Ip.spec:Entry:=entry [] Cc.Ip.pre Cc.Ip.out
def Cc.task.pre:List Atom→Bool
  | [.i _r,.i _c,.l _l,.i _p,.i _q,.l _m,.i _a,.i _b,.l _g,.i _u,.i _v,.l _h]=>true
  | _=>false
def Cc.task.out:List Atom→DV
  | [.i r,.i c,.l l,.i p,.i q,.l m,.i a,.i b,.l g,.i u,.i v,.l h]=>.agg [.int .i64 r,.int .i64 c,.ints .arg .u64 l,.int .i64 p,.int .i64 q,.ints .arg .u64 m,.int .i64 a,.int .i64 b,.ints .arg .u64 g,.int .i64 u,.int .i64 v,.ints .arg .u64 h]
  | _=>.undef
def Cc.task.spec:Entry:=entry [.st [.i .i64,.i .i64,.s .u64,.i .i64,.i .i64,.s .u64,.i .i64,.i .i64,.s .u64,.i .i64,.i .i64,.s .u64]] Cc.task.pre Cc.task.out
def Cc.D2.pre:List Atom→Bool
  | [.i _r,.i _c,.l l,.i _p,.i _q,.l m,.i _a,.i _b,.l g,.i _u,.i _v,.l h]=>Qf l m g h&&((F1 l&&F1 m)&&(F1 g&&F1 h))
  | _=>false
def Cc.D2.out:List Atom→DV
  | [.i _r,.i _c,.l _l,.i _p,.i _q,.l _m,.i _a,.i _b,.l _g,.i _u,.i _v,.l _h]=>.bool true
  | _=>.undef
def Cc.D2.spec:Entry:=entry [.st [.i .i64,.i .i64,.s .u64,.i .i64,.i .i64,.s .u64,.i .i64,.i .i64,.s .u64,.i .i64,.i .i64,.s .u64]] Cc.D2.pre Cc.D2.out
def Af.F5.arg.pre:List Atom→Bool
  | [.i r,.i c,.l l,.i i,.i k,.i _b]=>Cd r c l i k
  | _=>false
def Af.F5.arg.out:List Atom→DV
  | [.i r,.i c,.l l,.i i,.i k,.i b]=>.agg [.int .i64 r,.int .i64 c,.ints .arg .u64 (List.set l (Int.toNat (i*c+k)) b)]
  | _=>.undef
def Af.F5.arg.spec:Entry:=entry [.st [.i .i64,.i .i64,.s .u64],.i .i64,.i .i64,.i .u64] Af.F5.arg.pre Af.F5.arg.out
def Af.Fc.arg.pre:List Atom→Bool
  | [.i n]=>Bn n
  | _=>false
def Af.Fc.arg.out:List Atom→DV
  | [.i n]=>.agg [.int .i64 n,.int .i64 n,.ints .arg .u64 (Jj (Int.toNat n))]
  | _=>.undef
def Af.Fc.arg.spec:Entry:=entry [.i .i64] Af.Fc.arg.pre Af.Fc.arg.out
def Ff.Canon.nb.pre:List Atom→Bool
  | [.f _x]=>true
  | _=>false
def Ff.Canon.nb.out:List Atom→DV
  | [.f x]=>.int .u64 (Ga x)
  | _=>.undef
def Ff.Canon.nb.spec:Entry:=entry [.nb] Ff.Canon.nb.pre Ff.Canon.nb.out
def C1.Lx.pre:List Atom→Bool
  | [.i x]=>Ag x
  | _=>false
def C1.Lx.out:List Atom→DV
  | [.i x]=>.int .i64 (Fj x)
  | _=>.undef
def C1.Lx.spec:Entry:=entry [.i .u64] C1.Lx.pre C1.Lx.out
theorem tt0:∀ a b c:Bool,((a==a)&&(b&&(c&&true)))=(b&&c):=by decide
theorem tt1:∀ a b:Bool,(bif a then b else false)=(a&&b):=by decide
theorem Tw:∀ a:Bool,(((!a)||(a==true))&&true)=true:=by decide
theorem Mb:∀ a:Bool,((!(a==true))||((((!(a==true))||(a==true))&&true)&&true))=true:=by decide
theorem On:∀ a:Bool,((!(a==true))||true)=true:=by decide
theorem tt5:∀ a b:Bool,(bif a then true else b)=(a||b):=by decide
theorem Xb:∀ a:Bool,((!(!a))||(a==false))=true:=by decide
theorem Pg:∀ a:Bool,((!(a==false))||((((!(a==false))||(a==false))&&true)&&true))=true:=by decide
theorem tt8:∀ a:Bool,((!(a==false))||((((!(a==false))||(a==false))&&(((!(a==false))||(a==false))&&true))&&true))=true:=by decide
theorem Rs:∀ a:Bool,((!(a==false))||true)=true:=by decide
theorem Ci:∀ a:Bool,(a&&true)=a:=by decide
theorem Ayp:∀ a b c d e:Bool,(bif a then (bif b then true else (bif c then (bif d then true else e) else false)) else false)=(a&&(b||(c&&(d||e)))):=by decide
theorem Ayo:∀ a b:Bool,((!(a==true))||(((!(a==true))||(a==true))&&((!(!b))||((a==true)&&(b==false)))))=true:=by decide
theorem Ayn:∀ a b c:Bool,((!((a==true)&&(b==false)))||(((!((a==true)&&(b==false)))||((a==true)&&(b==false)))&&(((!c)||(((a==true)&&(b==false))&&(c==true)))&&true)))=true:=by decide
theorem Aym:∀ a b c d:Bool,((!(((a==true)&&(b==false))&&(c==true)))||(((!(((a==true)&&(b==false))&&(c==true)))||(((a==true)&&(b==false))&&(c==true)))&&((!(!d))||((((a==true)&&(b==false))&&(c==true))&&(d==false)))))=true:=by decide
theorem Awn:∀ a b c d:Bool,((!((((a==true)&&(b==false))&&(c==true))&&(d==false)))||((((!((((a==true)&&(b==false))&&(c==true))&&(d==false)))||((((a==true)&&(b==false))&&(c==true))&&(d==false)))&&true)&&true))=true:=by decide
theorem Ayl:∀ a b c d:Bool,((!((((a==true)&&(b==false))&&(c==true))&&(d==false)))||true)=true:=by decide
theorem Ayk:∀ a b c:Bool,((!(((a==true)&&(b==false))&&(c==true)))||((((!(((a==true)&&(b==false))&&(c==true)))||(((a==true)&&(b==false))&&(c==true)))&&true)&&true))=true:=by decide
theorem Ayj:∀ a b c:Bool,((!(((a==true)&&(b==false))&&(c==true)))||true)=true:=by decide
theorem Ayi:∀ a b:Bool,((!((a==true)&&(b==false)))||((((!((a==true)&&(b==false)))||((a==true)&&(b==false)))&&true)&&true))=true:=by decide
theorem Ayh:∀ a b:Bool,((!((a==true)&&(b==false)))||((((!((a==true)&&(b==false)))||((a==true)&&(b==false)))&&(((!((a==true)&&(b==false)))||((a==true)&&(b==false)))&&true))&&true))=true:=by decide
theorem Awm:∀ a b:Bool,((!((a==true)&&(b==false)))||true)=true:=by decide
theorem Ab8:∀ a:Bool,((!(a==true))||((((!(a==true))||(a==true))&&(((!(a==true))||(a==true))&&true))&&true))=true:=by decide
theorem Aub:∀ a b:Bool,(bif (!a) then true else b)=((!a)||b):=by decide
theorem Ab7:∀ a:Bool,((!(!(!a)))||((!a)==false))=true:=by decide
theorem Qq:∀ a:Bool,((!((!a)==false))||((((!((!a)==false))||((!a)==false))&&true)&&true))=true:=by decide
theorem Z6:∀ a:Bool,((!((!a)==false))||true)=true:=by decide
theorem Ayg:∀ a b:Bool,(bif a then (!b) else false)=(a&&(!b)):=by decide
theorem Ara:∀ a b:Bool,(bif (!a) then true else (!b))=((!a)||(!b)):=by decide
theorem Anm:∀ a b:Bool,((!((!a)==false))||((((!((!a)==false))||((!a)==false))&&true)&&b))=((!a)||b):=by decide
theorem Awl:∀ a b c d:Bool,(bif (bif a then b else false) then true else (bif c then d else false))=((a&&b)||(c&&d)):=by decide
theorem Awk:∀ a b:Bool,((!(!(bif a then b else false)))||((bif a then b else false)==false))=true:=by decide
theorem Awj:∀ a b c:Bool,((!((bif a then b else false)==false))||(((!((bif a then b else false)==false))||((bif a then b else false)==false))&&(((!c)||(((bif a then b else false)==false)&&(c==true)))&&true)))=true:=by decide
theorem Awi:∀ a b c:Bool,((!(((bif a then b else false)==false)&&(c==true)))||((((!(((bif a then b else false)==false)&&(c==true)))||(((bif a then b else false)==false)&&(c==true)))&&true)&&true))=true:=by decide
theorem Awh:∀ a b c:Bool,((!(((bif a then b else false)==false)&&(c==true)))||true)=true:=by decide
theorem Aq9:∀ a b:Bool,((!((bif a then b else false)==false))||((((!((bif a then b else false)==false))||((bif a then b else false)==false))&&true)&&true))=true:=by decide
theorem Awg:∀ a b:Bool,((!((bif a then b else false)==false))||true)=true:=by decide
theorem Jw:∀ a b:Bool,((a&&b)&&true)=(a&&b):=by decide
theorem Ayf:∀ a b c:Bool,(bif (bif (!a) then true else (!b)) then true else c)=(((!a)||(!b))||c):=by decide
theorem Awf:∀ a b:Bool,((!(!(bif (!a) then true else (!b))))||((bif (!a) then true else (!b))==false))=true:=by decide
theorem Awe:∀ a b:Bool,((!((bif (!a) then true else (!b))==false))||((((!((bif (!a) then true else (!b))==false))||((bif (!a) then true else (!b))==false))&&(((!((bif (!a) then true else (!b))==false))||((bif (!a) then true else (!b))==false))&&true))&&true))=true:=by decide
theorem Ahd:∀ a b:Bool,((!((bif (!a) then true else (!b))==false))||((((!((bif (!a) then true else (!b))==false))||((bif (!a) then true else (!b))==false))&&true)&&true))=true:=by decide
theorem Anl:∀ a b:Bool,((!((bif (!a) then true else (!b))==false))||true)=true:=by decide
theorem Awd:∀ a b c d:Bool,(((a&&b)&&(c&&d))&&true)=((a&&b)&&(c&&d)):=by decide
theorem Aye:∀ a b c d e f g h:Bool,(bif (bif (bif (bif (bif (bif (bif a then true else b) then true else c) then true else d) then true else e) then true else f) then true else g) then true else h)=(((((((a||b)||c)||d)||e)||f)||g)||h):=by decide
theorem Ayd:∀ a b c d e f g:Bool,((!(!(bif (bif (bif (bif (bif (bif a then true else b) then true else c) then true else d) then true else e) then true else f) then true else g)))||((bif (bif (bif (bif (bif (bif a then true else b) then true else c) then true else d) then true else e) then true else f) then true else g)==false))=true:=by decide
theorem Awc:∀ a b c d e f g:Bool,((!((bif (bif (bif (bif (bif (bif a then true else b) then true else c) then true else d) then true else e) then true else f) then true else g)==false))||((((!((bif (bif (bif (bif (bif (bif a then true else b) then true else c) then true else d) then true else e) then true else f) then true else g)==false))||((bif (bif (bif (bif (bif (bif a then true else b) then true else c) then true else d) then true else e) then true else f) then true else g)==false))&&(((!((bif (bif (bif (bif (bif (bif a then true else b) then true else c) then true else d) then true else e) then true else f) then true else g)==false))||((bif (bif (bif (bif (bif (bif a then true else b) then true else c) then true else d) then true else e) then true else f) then true else g)==false))&&true))&&true))=true:=by decide
theorem Aua:∀ a b c d e f g:Bool,((!((bif (bif (bif (bif (bif (bif a then true else b) then true else c) then true else d) then true else e) then true else f) then true else g)==false))||true)=true:=by decide
theorem Ayc:∀ a b c d e f g:Bool,((!((bif (bif (bif (bif (bif (bif a then true else b) then true else c) then true else d) then true else e) then true else f) then true else g)==false))||((((!((bif (bif (bif (bif (bif (bif a then true else b) then true else c) then true else d) then true else e) then true else f) then true else g)==false))||((bif (bif (bif (bif (bif (bif a then true else b) then true else c) then true else d) then true else e) then true else f) then true else g)==false))&&true)&&true))=true:=by decide
theorem At9:∀ a b c d e f:Bool,((!(!(bif (bif (bif (bif (bif a then true else b) then true else c) then true else d) then true else e) then true else f)))||((bif (bif (bif (bif (bif a then true else b) then true else c) then true else d) then true else e) then true else f)==false))=true:=by decide
theorem Akq:∀ a b c d e f:Bool,((!((bif (bif (bif (bif (bif a then true else b) then true else c) then true else d) then true else e) then true else f)==false))||((((!((bif (bif (bif (bif (bif a then true else b) then true else c) then true else d) then true else e) then true else f)==false))||((bif (bif (bif (bif (bif a then true else b) then true else c) then true else d) then true else e) then true else f)==false))&&(((!((bif (bif (bif (bif (bif a then true else b) then true else c) then true else d) then true else e) then true else f)==false))||((bif (bif (bif (bif (bif a then true else b) then true else c) then true else d) then true else e) then true else f)==false))&&true))&&true))=true:=by decide
theorem Ab6:∀ a b c d e f:Bool,((!((bif (bif (bif (bif (bif a then true else b) then true else c) then true else d) then true else e) then true else f)==false))||true)=true:=by decide
theorem Ab5:∀ a b c d e f:Bool,((!((bif (bif (bif (bif (bif a then true else b) then true else c) then true else d) then true else e) then true else f)==false))||((((!((bif (bif (bif (bif (bif a then true else b) then true else c) then true else d) then true else e) then true else f)==false))||((bif (bif (bif (bif (bif a then true else b) then true else c) then true else d) then true else e) then true else f)==false))&&true)&&true))=true:=by decide
theorem At8:∀ a b c d e:Bool,((!(!(bif (bif (bif (bif a then true else b) then true else c) then true else d) then true else e)))||((bif (bif (bif (bif a then true else b) then true else c) then true else d) then true else e)==false))=true:=by decide
theorem At7:∀ a b c d e:Bool,((!((bif (bif (bif (bif a then true else b) then true else c) then true else d) then true else e)==false))||((((!((bif (bif (bif (bif a then true else b) then true else c) then true else d) then true else e)==false))||((bif (bif (bif (bif a then true else b) then true else c) then true else d) then true else e)==false))&&(((!((bif (bif (bif (bif a then true else b) then true else c) then true else d) then true else e)==false))||((bif (bif (bif (bif a then true else b) then true else c) then true else d) then true else e)==false))&&true))&&true))=true:=by decide
theorem Ank:∀ a b c d e:Bool,((!((bif (bif (bif (bif a then true else b) then true else c) then true else d) then true else e)==false))||((((!((bif (bif (bif (bif a then true else b) then true else c) then true else d) then true else e)==false))||((bif (bif (bif (bif a then true else b) then true else c) then true else d) then true else e)==false))&&true)&&true))=true:=by decide
theorem Akp:∀ a b c d e:Bool,((!((bif (bif (bif (bif a then true else b) then true else c) then true else d) then true else e)==false))||true)=true:=by decide
theorem Aq8:∀ a b c d:Bool,((!(!(bif (bif (bif a then true else b) then true else c) then true else d)))||((bif (bif (bif a then true else b) then true else c) then true else d)==false))=true:=by decide
theorem Awb:∀ a b c d:Bool,((!((bif (bif (bif a then true else b) then true else c) then true else d)==false))||((((!((bif (bif (bif a then true else b) then true else c) then true else d)==false))||((bif (bif (bif a then true else b) then true else c) then true else d)==false))&&(((!((bif (bif (bif a then true else b) then true else c) then true else d)==false))||((bif (bif (bif a then true else b) then true else c) then true else d)==false))&&true))&&true))=true:=by decide
theorem Aed:∀ a b c d:Bool,((!((bif (bif (bif a then true else b) then true else c) then true else d)==false))||((((!((bif (bif (bif a then true else b) then true else c) then true else d)==false))||((bif (bif (bif a then true else b) then true else c) then true else d)==false))&&true)&&true))=true:=by decide
theorem Ako:∀ a b c d:Bool,((!((bif (bif (bif a then true else b) then true else c) then true else d)==false))||true)=true:=by decide
theorem Aq7:∀ a b c:Bool,((!(!(bif (bif a then true else b) then true else c)))||((bif (bif a then true else b) then true else c)==false))=true:=by decide
theorem Aec:∀ a b c:Bool,((!((bif (bif a then true else b) then true else c)==false))||((((!((bif (bif a then true else b) then true else c)==false))||((bif (bif a then true else b) then true else c)==false))&&true)&&true))=true:=by decide
theorem Aq6:∀ a b c:Bool,((!((bif (bif a then true else b) then true else c)==false))||true)=true:=by decide
theorem Aq5:∀ a b:Bool,((!(!(bif a then true else b)))||((bif a then true else b)==false))=true:=by decide
theorem Ab4:∀ a b:Bool,((!((bif a then true else b)==false))||((((!((bif a then true else b)==false))||((bif a then true else b)==false))&&true)&&true))=true:=by decide
theorem Aeb:∀ a b:Bool,((!((bif a then true else b)==false))||true)=true:=by decide
theorem Ayb:∀ a b:Bool,(!(a&&(b&&true)))=(!(a&&b)):=by decide
theorem Aya:∀ a b c d:Bool,(((!(bif (bif (bif a then b else false) then c else false) then d else false))||((bif (bif (bif a then b else false) then c else false) then d else false)==true))&&true)=true:=by decide
theorem Awa:∀ a b c d:Bool,((!((bif (bif (bif a then b else false) then c else false) then d else false)==true))||((((!((bif (bif (bif a then b else false) then c else false) then d else false)==true))||((bif (bif (bif a then b else false) then c else false) then d else false)==true))&&(((!((bif (bif (bif a then b else false) then c else false) then d else false)==true))||((bif (bif (bif a then b else false) then c else false) then d else false)==true))&&true))&&true))=true:=by decide
theorem Aq4:∀ a b c d:Bool,((!((bif (bif (bif a then b else false) then c else false) then d else false)==true))||((((!((bif (bif (bif a then b else false) then c else false) then d else false)==true))||((bif (bif (bif a then b else false) then c else false) then d else false)==true))&&true)&&true))=true:=by decide
theorem At6:∀ a b c d:Bool,((!((bif (bif (bif a then b else false) then c else false) then d else false)==true))||true)=true:=by decide
theorem Ax9:∀ a b c:Bool,(((!(bif (bif a then b else false) then c else false))||((bif (bif a then b else false) then c else false)==true))&&true)=true:=by decide
theorem Av9:∀ a b c:Bool,((!((bif (bif a then b else false) then c else false)==true))||((((!((bif (bif a then b else false) then c else false)==true))||((bif (bif a then b else false) then c else false)==true))&&true)&&true))=true:=by decide
theorem Ax8:∀ a b c:Bool,((!((bif (bif a then b else false) then c else false)==true))||true)=true:=by decide
theorem Aq3:∀ a b:Bool,(((!(bif a then b else false))||((bif a then b else false)==true))&&true)=true:=by decide
theorem Ahb:∀ a b:Bool,((!((bif a then b else false)==true))||((((!((bif a then b else false)==true))||((bif a then b else false)==true))&&true)&&true))=true:=by decide
theorem Anj:∀ a b:Bool,((!((bif a then b else false)==true))||true)=true:=by decide
theorem Ax7:∀ a b c:Bool,((!((bif a then b else false)==true))||((((!((bif a then b else false)==true))||((bif a then b else false)==true))&&(((!((bif a then b else false)==true))||((bif a then b else false)==true))&&true))&&c))=((!(a&&b))||c):=by decide
theorem Ax6:∀ a b c:Bool,((!(a==true))||((((!(a==true))||(a==true))&&(((!(a==true))||(a==true))&&true))&&(b&&c)))=((!a)||(b&&c)):=by decide
theorem Av8:∀ a:Bool,(((a&&true)&&true)&&true)=a:=by decide
theorem Av7:∀ a b:Bool,((!(a==true))||((((!(a==true))||(a==true))&&true)&&b))=((!a)||b):=by decide
theorem Ax5:∀ a b:Bool,((!(a==true))||((((!(a==true))||(a==true))&&(((!(a==true))||(a==true))&&true))&&b))=((!a)||b):=by decide
theorem Aq2:∀ a b:Bool,((!(a==false))||((((!(a==false))||(a==false))&&true)&&b))=(a||b):=by decide
theorem Av6:∀ a b:Bool,(bif a then true else (!b))=(a||(!b)):=by decide
theorem At5:∀ a b c:Bool,((a&&b)&&((a&&c)&&true))=((a&&b)&&(a&&c)):=by decide
theorem Ax4:∀ a:Bool,((a&&true)&&true)=a:=by decide
theorem Ax3:∀ a b c d e:Bool,(bif (bif (bif (bif a then true else b) then true else c) then true else d) then true else e)=((((a||b)||c)||d)||e):=by decide
theorem Aq1:∀ a b:Bool,((!((bif a then true else b)==false))||((((!((bif a then true else b)==false))||((bif a then true else b)==false))&&(((!((bif a then true else b)==false))||((bif a then true else b)==false))&&true))&&true))=true:=by decide
theorem Av5:∀ a b c d e f g:Bool,(bif (bif (bif (bif (bif (bif a then true else b) then true else c) then true else d) then true else e) then true else f) then true else g)=((((((a||b)||c)||d)||e)||f)||g):=by decide
theorem Ax2:∀ a b c:Bool,((!((bif a then b else false)==true))||((((!((bif a then b else false)==true))||((bif a then b else false)==true))&&true)&&c))=((!(a&&b))||c):=by decide
theorem Ax1:∀ a b c d:Bool,(bif (bif (bif (!a) then true else (!b)) then true else (!c)) then true else (!d))=((((!a)||(!b))||(!c))||(!d)):=by decide
theorem Ax0:∀ a b c:Bool,((!(!(bif (bif (!a) then true else (!b)) then true else (!c))))||((bif (bif (!a) then true else (!b)) then true else (!c))==false))=true:=by decide
theorem At4:∀ a b c:Bool,((!((bif (bif (!a) then true else (!b)) then true else (!c))==false))||((((!((bif (bif (!a) then true else (!b)) then true else (!c))==false))||((bif (bif (!a) then true else (!b)) then true else (!c))==false))&&true)&&true))=true:=by decide
theorem Axz:∀ a b c d:Bool,((!((bif (bif (!a) then true else (!b)) then true else (!c))==false))||((((!((bif (bif (!a) then true else (!b)) then true else (!c))==false))||((bif (bif (!a) then true else (!b)) then true else (!c))==false))&&(((!((bif (bif (!a) then true else (!b)) then true else (!c))==false))||((bif (bif (!a) then true else (!b)) then true else (!c))==false))&&true))&&d))=((((!a)||(!b))||(!c))||d):=by decide
theorem Atl:∀ a b c:Bool,((!((bif (bif (!a) then true else (!b)) then true else (!c))==false))||true)=true:=by decide
theorem Awp:∀ a b c:Bool,((!((bif (!a) then true else (!b))==false))||((((!((bif (!a) then true else (!b))==false))||((bif (!a) then true else (!b))==false))&&(((!((bif (!a) then true else (!b))==false))||((bif (!a) then true else (!b))==false))&&true))&&c))=(((!a)||(!b))||c):=by decide
theorem Awo:∀ a b:Bool,((!((!a)==false))||((((!((!a)==false))||((!a)==false))&&(((!((!a)==false))||((!a)==false))&&true))&&b))=((!a)||b):=by decide
open Go Go.Den Go.Rnd Go.Proofs
set_option maxRecDepth 100000
namespace EqSoft
def soft.Split.A8:List (Nat × Entry):=[]
def soft.Split.E:Env:=A9 (A7 soft.Split.A8) (fun _=>false) (fun _=>none) (fun _=>none)
theorem soft.Split.ev (N:Nat) (x:Int):Bp soft.Split.E N Tryz.f206 (Al Tryz.f206) [.int .u64 x]=some (.agg [.bool ((Dp .u64 x 63)==(1:Int)),.int .i64 (Ab (E9 .u64 (Dp .u64 x 52) 2047)),.int .u64 (E9 .u64 x 4503599627370495)]):=by kernel_rfl
abbrev _root_.Go.Proofs.S1.soft.Split.Kn:=A5 Tryz.prog 206 soft.Split.spec
theorem soft.Split.Ac (hk:Ay Tryz.prog soft.Split.A8) (h:∀ (x:Int),soft.Split.pre [.i x]=true→Ba soft.Split.E Tryz.f206 [.int .u64 x] (soft.Split.out [.i x])):soft.Split.Kn :=
  Aj (A1 hk _ _ _) Tryz.func206 (by kernel_rfl) (by kernel_rfl) h
def soft.Kind.A8:List (Nat × Entry):=[(206,soft.Split.spec)]
def soft.Kind.E:Env:=A9 (A7 soft.Kind.A8) (fun _=>false) (fun _=>none) (fun _=>none)
theorem soft.Kind.ev (N:Nat) (x:Int):Bp soft.Kind.E N Tryz.f155 (Al Tryz.f155) [.int .u64 x]=bif (Ag x) then bif (((L5 x)==(2047:Int))&&((C2 x)==(0:Int))) then some (.int .i64 3) else bif ((L5 x)==(2047:Int)) then some (.int .i64 4) else bif (A6 0 (L5 x)) then some (.int .i64 2) else bif (A6 0 (C2 x)) then some (.int .i64 1) else some (.int .i64 0) else none :=
  Eq.trans (by kernel_rfl)
  (Ea (Cq (tt0 (D0 x) ((L5 x)==(2047:Int)) ((C2 x)==(0:Int))) rfl rfl) rfl)
abbrev _root_.Go.Proofs.S1.soft.Kind.Kn:=A5 Tryz.prog 155 soft.Kind.spec
theorem soft.Kind.Ac (hk:Ay Tryz.prog soft.Kind.A8) (h:∀ (x:Int),soft.Kind.pre [.i x]=true→Ba soft.Kind.E Tryz.f155 [.int .u64 x] (soft.Kind.out [.i x])):soft.Kind.Kn :=
  Aj (A1 hk _ _ _) Tryz.func155 (by kernel_rfl) (by kernel_rfl) h
def soft.Sign.A8:List (Nat × Entry):=[]
def soft.Sign.E:Env:=A9 (A7 soft.Sign.A8) (fun _=>false) (fun _=>none) (fun _=>none)
theorem soft.Sign.ev (N:Nat) (x:Int):Bp soft.Sign.E N Tryz.f213 (Al Tryz.f213) [.int .u64 x]=some (.bool ((Dp .u64 x 63)==(1:Int))):=by kernel_rfl
abbrev _root_.Go.Proofs.S1.soft.Sign.Kn:=A5 Tryz.prog 213 soft.Sign.spec
theorem soft.Sign.Ac (hk:Ay Tryz.prog soft.Sign.A8) (h:∀ (x:Int),soft.Sign.pre [.i x]=true→Ba soft.Sign.E Tryz.f213 [.int .u64 x] (soft.Sign.out [.i x])):soft.Sign.Kn :=
  Aj (A1 hk _ _ _) Tryz.func213 (by kernel_rfl) (by kernel_rfl) h
def soft.Finite.A8:List (Nat × Entry):=[(155,soft.Kind.spec)]
def soft.Finite.E:Env:=A9 (A7 soft.Finite.A8) (fun _=>false) (fun _=>none) (fun _=>none)
theorem soft.Finite.ev (N:Nat) (x:Int):Bp soft.Finite.E N Tryz.f148 (Al Tryz.f148) [.int .u64 x]=bif (Ag x) then bif ((Be x)==(3:Int)) then some (.bool false) else bif ((Be x)==(4:Int)) then some (.bool false) else some (.bool true) else none:=by kernel_rfl
abbrev _root_.Go.Proofs.S1.soft.Finite.Kn:=A5 Tryz.prog 148 soft.Finite.spec
theorem soft.Finite.Ac (hk:Ay Tryz.prog soft.Finite.A8) (h:∀ (x:Int),soft.Finite.pre [.i x]=true→Ba soft.Finite.E Tryz.f148 [.int .u64 x] (soft.Finite.out [.i x])):soft.Finite.Kn :=
  Aj (A1 hk _ _ _) Tryz.func148 (by kernel_rfl) (by kernel_rfl) h
def soft.Dv.A8:List (Nat × Entry):=[]
def soft.Dv.E:Env:=A9 (A7 soft.Dv.A8) (fun _=>false) (fun _=>none) (fun _=>none)
theorem soft.Dv.ev (N:Nat) (x:Int):Bp soft.Dv.E N Tryz.f233 (Al Tryz.f233) [.int .u64 x]=some (.int .u64 (Atc .u64 x 9223372036854775808)):=by kernel_rfl
abbrev _root_.Go.Proofs.S1.soft.Dv.Kn:=A5 Tryz.prog 233 soft.Dv.spec
theorem soft.Dv.Ac (hk:Ay Tryz.prog soft.Dv.A8) (h:∀ (x:Int),soft.Dv.pre [.i x]=true→Ba soft.Dv.E Tryz.f233 [.int .u64 x] (soft.Dv.out [.i x])):soft.Dv.Kn :=
  Aj (A1 hk _ _ _) Tryz.func233 (by kernel_rfl) (by kernel_rfl) h
def soft.Gp.A8:List (Nat × Entry):=[(206,soft.Split.spec)]
def soft.Gp.E:Env:=A9 (A7 soft.Gp.A8) (fun _=>false) (fun _=>none) (fun _=>none)
theorem soft.Gp.ev (N:Nat) (x:Int):Bp soft.Gp.E N Tryz.f211 (Al Tryz.f211) [.int .u64 x]=bif (Ag x) then bif ((L5 x)==(0:Int)) then some (.tup [.int .u64 (C2 x),.int .i64 (-1074:Int)]) else some (.tup [.int .u64 (Io .u64 (C2 x) 4503599627370496),.int .i64 (Ab ((L5 x)-1075))]) else none:=by kernel_rfl
abbrev _root_.Go.Proofs.S1.soft.Gp.Kn:=A5 Tryz.prog 211 soft.Gp.spec
theorem soft.Gp.Ac (hk:Ay Tryz.prog soft.Gp.A8) (h:∀ (x:Int),soft.Gp.pre [.i x]=true→Ba soft.Gp.E Tryz.f211 [.int .u64 x] (soft.Gp.out [.i x])):soft.Gp.Kn :=
  Aj (A1 hk _ _ _) Tryz.func211 (by kernel_rfl) (by kernel_rfl) h
def soft.Pack.A8:List (Nat × Entry):=[(233,soft.Dv.spec)]
def soft.Pack.E (rk:Nat):Env:=A9 (A7 ((239,Ala [.b,.i .u64,.i .i64] soft.Pack.pre soft.Pack.out soft.Pack.mu rk)::soft.Pack.A8)) (fun _=>false) (fun _=>none) (fun _=>none)
theorem soft.Pack.ev (N rk:Nat) (n:Bool) (m e:Int):Bp (soft.Pack.E rk) N Tryz.f239 (Al Tryz.f239) [.bool n,.int .u64 m,.int .i64 e]=bif (m==(0:Int)) then bif n then bif (Ag 0) then some (.int .u64 (Dd 0)) else none else some (.int .u64 0) else bif (Ep 9007199254740992 m) then bif ((Lf (Dp .u64 m 1) (Ab (e+1)))&&(Dh ((Ps (Dp .u64 m 1) (Ab (e+1)))<rk))) then some (.int .u64 (Ui n (Dp .u64 m 1) (Ab (e+1)))) else none else bif ((A6 m 4503599627370496)&&(A6 (-1074:Int) e)) then bif ((Lf (B5 .u64 m 1) (Ab (e-1)))&&(Dh ((Ps (B5 .u64 m 1) (Ab (e-1)))<rk))) then some (.int .u64 (Ui n (B5 .u64 m 1) (Ab (e-1)))) else none else bif (A6 m 4503599627370496) then bif n then bif (Ag m) then some (.int .u64 (Dd m)) else none else some (.int .u64 m) else bif (Ep 2047 (Ab (e+1075))) then bif n then bif (Ag 9218868437227405312) then some (.int .u64 (Dd 9218868437227405312)) else none else some (.int .u64 9218868437227405312) else bif n then bif (Ag (Io .u64 (B5 .u64 (Bj (Ab (e+1075))) 52) (E9 .u64 m 4503599627370495))) then some (.int .u64 (Dd (Io .u64 (B5 .u64 (Bj (Ab (e+1075))) 52) (E9 .u64 m 4503599627370495)))) else none else some (.int .u64 (Io .u64 (B5 .u64 (Bj (Ab (e+1075))) 52) (E9 .u64 m 4503599627370495))) :=
  Eq.trans (by kernel_rfl)
  (Ea rfl (Ea rfl (Ar (On (A6 m 4503599627370496)) (Ar (Mb (A6 m 4503599627370496)) (Ar (Tw (A6 m 4503599627370496)) (Cq (tt1 (A6 m 4503599627370496) (A6 (-1074:Int) e)) rfl rfl))))))
theorem soft.Pack.Ac (hk:Ay Tryz.prog soft.Pack.A8) (h:∀ (rk:Nat) (n:Bool) (m e:Int),soft.Pack.pre [.b n,.i m,.i e]=true→soft.Pack.mu [.b n,.i m,.i e]<rk+1→∃ N dv drops,Bp (soft.Pack.E rk) N Tryz.f239 (Al Tryz.f239) [.bool n,.int .u64 m,.int .i64 e]=some dv∧Wk drops dv (soft.Pack.out [.b n,.i m,.i e])):A5 Tryz.prog 239 soft.Pack.spec:=by
  have call:=Tq (f:=239) Tryz.func239 (by kernel_rfl) (show Tryz.f239.body=some (Al Tryz.f239) by kernel_rfl)
  refine ⟨Ah2 (E:=soft.Pack.E) Tryz.func239 (show Tryz.f239.body=some (Al Tryz.f239) by kernel_rfl) soft.Pack.mu (fun rk hm=>A1 (.cons ⟨hm,call⟩ hk) _ _ _) fun rk ats dvs he hp hr=>?_,call⟩
  obtain ⟨n,_,_,rfl,rfl,he0⟩:=he.Aw7
  obtain ⟨m,_,_,rfl,rfl,he1⟩:=he0.Apj
  obtain ⟨e,_,_,rfl,rfl,he2⟩:=he1.Apj
  obtain ⟨rfl,rfl⟩:=he2.Ac3
  exact h rk n m e hp hr
abbrev _root_.Go.Proofs.S1.soft.Pack.Kn:Prop:=A5 Tryz.prog 239 soft.Pack.spec
def soft.Dn.hint:Nat→Option Bb
  | 0=>some { keep:=[0,1,2,3,10],objs:=[],boxes:=[] }
  | _=>none
def soft.Dn.A8:List (Nat × Entry):=[(155,soft.Kind.spec),(239,soft.Pack.spec)]
def soft.Dn.live:Nat→Option (List Nat)
  | 7=>some [0,1,2,3,10]
  | 12=>some [0,2,3,10,11,12,13,14]
  | 14=>some [0,2,10,11,14]
  | 16=>some [0,2,10,11,14]
  | 18=>some [14,15,16]
  | _=>none
def soft.Dn.E:Env:=A9 (A7 soft.Dn.A8) (fun _=>false) soft.Dn.hint soft.Dn.live
def soft.Dn.L0 (N M:Nat) (n:Bool) (m e:Int) (r:Bool) (p10:Int):Option DV:=Bv soft.Dn.E N Tryz.f212 (Al Tryz.f212) [1,1,1,0,0] [] M ⟨Ft 111 [(0,.bool n),(1,.int .u64 m),(2,.int .i64 e),(3,.bool r),(10,.int .i64 p10)],[]⟩
def soft.Dn.C7 (N:Nat) (n:Bool) (m e:Int) (r:Bool) (p10_1:Int):Option DV:=cutAt soft.Dn.E N Tryz.f212 (Al Tryz.f212) [1,1,1,1] [] ⟨Ft 111 [(0,.bool n),(1,.int .u64 m),(2,.int .i64 e),(3,.bool r),(10,.int .i64 p10_1)],[]⟩
def soft.Dn.C12 (N:Nat) (n:Bool) (e:Int) (r:Bool) (p10_2 p11_1:Int) (p12 p13:Int) (p14:Bool):Option DV:=cutAt soft.Dn.E N Tryz.f212 (Al Tryz.f212) [1,1,1,1,1,1,1,1,0] [] ⟨Ft 111 [(0,.bool n),(2,.int .i64 e),(3,.bool r),(10,.int .i64 p10_2),(11,.int .u64 p11_1),(12,.int .u64 p12),(13,.int .u64 p13),(14,.bool p14)],[]⟩
def soft.Dn.C14 (N:Nat) (n:Bool) (e p10_3 p11_2:Int) (p14_1:Bool):Option DV:=cutAt soft.Dn.E N Tryz.f212 (Al Tryz.f212) [1,1,1,1,1,1,1,1,1,0] [] ⟨Ft 111 [(0,.bool n),(2,.int .i64 e),(10,.int .i64 p10_3),(11,.int .u64 p11_2),(14,.bool p14_1)],[]⟩
def soft.Dn.C16 (N:Nat) (n:Bool) (e p11 p10_4:Int) (p14_2:Bool):Option DV:=cutAt soft.Dn.E N Tryz.f212 (Al Tryz.f212) [1,1,1,1,1,1,1,1,1,1] [] ⟨Ft 111 [(0,.bool n),(2,.int .i64 e),(10,.int .i64 p10_4),(11,.int .u64 p11),(14,.bool p14_2)],[]⟩
def soft.Dn.C18 (N:Nat) (p14_3:Bool) (p15:Int):Option DV:=cutAt soft.Dn.E N Tryz.f212 (Al Tryz.f212) [1,1,1,1,1,1,1,1,1,1,1,1,0] [] ⟨Ft 111 [(14,.bool p14_3),(15,.int .u64 p15),(16,.int .u8 0)],[]⟩
theorem soft.Dn.Au (N M:Nat) (n:Bool) (m e:Int) (r:Bool) (p10:Int):soft.Dn.L0 N (M+1) n m e r p10=bif (decide (0≤p10)) then bif ((Ep 9007199254740992 (Dp .u64 m p10))||(A6 (Ab (e+p10)) (-1074:Int))) then bif ((Ab (p10+1))==(63:Int)) then soft.Dn.C7 N n m e r (Ab (p10+1)) else soft.Dn.L0 N M n m e r (Ab (p10+1)) else soft.Dn.C7 N n m e r p10 else none :=
  Eq.trans (by kernel_rfl)
  (Ea (Ar (Rs (Ep 9007199254740992 (Dp .u64 m p10))) (Ar (Rs (Ep 9007199254740992 (Dp .u64 m p10))) (Ar (tt8 (Ep 9007199254740992 (Dp .u64 m p10))) (Ar (Pg (Ep 9007199254740992 (Dp .u64 m p10))) (Ar (Xb (Ep 9007199254740992 (Dp .u64 m p10))) (Cq (tt5 (Ep 9007199254740992 (Dp .u64 m p10)) (A6 (Ab (e+p10)) (-1074:Int))) rfl rfl)))))) rfl)
theorem soft.Dn.Axa (N:Nat) (n:Bool) (m e:Int) (r:Bool) (p10_1:Int):soft.Dn.C7 N n m e r p10_1=bif (decide (0≤p10_1)) then bif (decide (0≤p10_1)) then bif (A6 0 p10_1) then bif (decide (0≤(Ab (p10_1-1)))) then soft.Dn.C12 N n e r p10_1 (Dp .u64 m p10_1) (E9 .u64 m (Bj ((B5 .u64 1 p10_1)-1))) (B5 .u64 1 (Ab (p10_1-1))) (bif ((E9 .u64 m (Bj ((B5 .u64 1 p10_1)-1)))==(0:Int)) then (!r) else false) else none else soft.Dn.C12 N n e r p10_1 (Dp .u64 m p10_1) (E9 .u64 m (Bj ((B5 .u64 1 p10_1)-1))) 0 (bif ((E9 .u64 m (Bj ((B5 .u64 1 p10_1)-1)))==(0:Int)) then (!r) else false) else none else none :=
  Eq.trans ((Ej _ _ _ _ _ _ _).trans (by kernel_rfl))
  (Cq (Ci (decide (0≤p10_1))) (Cq (Ci (decide (0≤p10_1))) (Ea (Ea (Ar (On ((E9 .u64 m (Bj ((B5 .u64 1 p10_1)-1)))==(0:Int))) (Ar (Mb ((E9 .u64 m (Bj ((B5 .u64 1 p10_1)-1)))==(0:Int))) (Ar (Tw ((E9 .u64 m (Bj ((B5 .u64 1 p10_1)-1)))==(0:Int))) rfl))) rfl) (Ar (On ((E9 .u64 m (Bj ((B5 .u64 1 p10_1)-1)))==(0:Int))) (Ar (Mb ((E9 .u64 m (Bj ((B5 .u64 1 p10_1)-1)))==(0:Int))) (Ar (Tw ((E9 .u64 m (Bj ((B5 .u64 1 p10_1)-1)))==(0:Int))) rfl)))) rfl) rfl)
theorem soft.Dn.Z5 (N:Nat) (n:Bool) (e:Int) (r:Bool) (p10_2 p11_1:Int) (p12 p13:Int) (p14:Bool):soft.Dn.C12 N n e r p10_2 p11_1 p12 p13 p14=bif ((A6 0 p10_2)&&((A6 p13 p12)||((p12==p13)&&(r||((E9 .u64 p11_1 1)==(1:Int)))))) then soft.Dn.C14 N n e p10_2 (Bj (p11_1+1)) p14 else soft.Dn.C14 N n e p10_2 p11_1 p14 :=
  Eq.trans ((Ej _ _ _ _ _ _ _).trans (by kernel_rfl))
  (Ar (On (A6 0 p10_2)) (Ar (On (A6 0 p10_2)) (Ar (Ab8 (A6 0 p10_2)) (Ar (Mb (A6 0 p10_2)) (Ar (Awm (A6 0 p10_2) (A6 p13 p12)) (Ar (Awm (A6 0 p10_2) (A6 p13 p12)) (Ar (Ayh (A6 0 p10_2) (A6 p13 p12)) (Ar (Ayi (A6 0 p10_2) (A6 p13 p12)) (Ar (Ayj (A6 0 p10_2) (A6 p13 p12) (p12==p13)) (Ar (Ayk (A6 0 p10_2) (A6 p13 p12) (p12==p13)) (Ar (Ayl (A6 0 p10_2) (A6 p13 p12) (p12==p13) r) (Ar (Awn (A6 0 p10_2) (A6 p13 p12) (p12==p13) r) (Ar (Awn (A6 0 p10_2) (A6 p13 p12) (p12==p13) r) (Ar (Aym (A6 0 p10_2) (A6 p13 p12) (p12==p13) r) (Ar (Ayn (A6 0 p10_2) (A6 p13 p12) (p12==p13)) (Ar (Ayo (A6 0 p10_2) (A6 p13 p12)) (Ar (Tw (A6 0 p10_2)) (Cq (Ayp (A6 0 p10_2) (A6 p13 p12) (p12==p13) r ((E9 .u64 p11_1 1)==(1:Int))) rfl rfl))))))))))))))))))
theorem soft.Dn.Aiz (N:Nat) (n:Bool) (e p10_3 p11_2:Int) (p14_1:Bool):soft.Dn.C14 N n e p10_3 p11_2 p14_1=bif (A6 (Ab (e+p10_3)) (-1074:Int)) then soft.Dn.C16 N n e 0 p10_3 p14_1 else soft.Dn.C16 N n e p11_2 p10_3 p14_1:=(Ej _ _ _ _ _ _ _).trans (by kernel_rfl)
theorem soft.Dn.Ave (N:Nat) (n:Bool) (e p11 p10_4:Int) (p14_2:Bool):soft.Dn.C16 N n e p11 p10_4 p14_2=bif (Lf p11 (max (Ab (e+p10_4)) (-1074:Int))) then soft.Dn.C18 N p14_2 (Ui n p11 (max (Ab (e+p10_4)) (-1074:Int))) else none:=(Ej _ _ _ _ _ _ _).trans (by kernel_rfl)
theorem soft.Dn.Z4 (N:Nat) (p14_3:Bool) (p15:Int):soft.Dn.C18 N p14_3 p15=bif ((!p14_3)||((G4 .u64 p15 9223372036854775808)==(9218868437227405312:Int))) then bif (Ag p15) then bif ((Be p15)==(3:Int)) then some (.tup [.int .u64 p15,.int .u8 5]) else bif ((Be p15)==(0:Int)) then bif ((Be p15)==(0:Int)) then some (.tup [.int .u64 p15,.int .u8 3]) else some (.tup [.int .u64 p15,.int .u8 1]) else bif ((Be p15)==(1:Int)) then some (.tup [.int .u64 p15,.int .u8 3]) else some (.tup [.int .u64 p15,.int .u8 1]) else none else some (.tup [.int .u64 p15,.int .u8 0]) :=
  Eq.trans ((Ej _ _ _ _ _ _ _).trans (by kernel_rfl))
  (Ar (Z6 p14_3) (Ar (Qq p14_3) (Ar (Qq p14_3) (Ar (Ab7 p14_3) (Cq (Aub p14_3 ((G4 .u64 p15 9223372036854775808)==(9218868437227405312:Int))) rfl rfl)))))
theorem soft.Dn.ev (N:Nat) (n:Bool) (m e:Int) (r:Bool):Bp soft.Dn.E N Tryz.f212 (Al Tryz.f212) [.bool n,.int .u64 m,.int .i64 e,.bool r]=bif ((m==(0:Int))&&(!r)) then bif (Lf 0 (-1074:Int)) then some (.tup [.int .u64 (Ui n 0 (-1074:Int)),.int .u8 0]) else none else soft.Dn.L0 N N n m e r 0 :=
  Eq.trans (by kernel_rfl)
  (Ar (On (m==(0:Int))) (Ar (Mb (m==(0:Int))) (Ar (Tw (m==(0:Int))) (Cq (Ayg (m==(0:Int)) r) rfl rfl))))
abbrev _root_.Go.Proofs.S1.soft.Dn.Kn:=A5 Tryz.prog 212 soft.Dn.spec
theorem soft.Dn.Ac (hk:Ay Tryz.prog soft.Dn.A8) (h:∀ (n:Bool) (m e:Int) (r:Bool),soft.Dn.pre [.b n,.i m,.i e,.b r]=true→Ba soft.Dn.E Tryz.f212 [.bool n,.int .u64 m,.int .i64 e,.bool r] (soft.Dn.out [.b n,.i m,.i e,.b r])):soft.Dn.Kn :=
  Aj (A1 hk _ _ _) Tryz.func212 (by kernel_rfl) (by kernel_rfl) h
end EqSoft
theorem Ad {a b:Bool}:(a&&b)=true↔a=true∧b=true:=by simp
theorem Ajm {n:Nat} (hn:n<2^64):((Dp .u64 (n:Int) (63:Int))==(1:Int))=D0 n:=by
  rw [show (63:Int)=((63:Nat):Int) from rfl,H7 .u64 n 63 (by decide)]
  unfold D0 Bu
  rw [Ay8,Azm]
  simp only [beq_iff_eq,Azd]
  omega
theorem Ars {n:Nat} (hn:n<2^64):Ab (E9 .u64 (Dp .u64 (n:Int) (52:Int)) (2047:Int))=L5 n:=by
  rw [show (52:Int)=((52:Nat):Int) from rfl,H7 .u64 n 52 (by decide),show (2047:Int)=((2^11-1:Nat):Int) from rfl,Jk 11 (by omega) (by decide)]
  unfold L5 D6
  rw [Ay8,Am (by omega) (by omega)]
theorem Apn {n:Nat} (hn:n<2^64):E9 .u64 (n:Int) (4503599627370495:Int)=C2 n:=by
  rw [show (4503599627370495:Int)=((2^52-1:Nat):Int) from rfl,Jk 52 hn (by decide)]
  unfold C2 Dc
  rw [Ay8]
theorem soft.Split.known:soft.Split.Kn:=EqSoft.soft.Split.Ac .nil fun x hp=>by
  obtain ⟨n,rfl,hn⟩:=Bl (x:=x) hp
  refine ⟨0,soft.Split.out [.i n],[],?_,Wk.G2 (.cons .bool (.cons .int (.cons .int .nil)))⟩
  rw [EqSoft.soft.Split.ev,Ajm hn,Ars hn,Apn hn]
  rfl
theorem soft.Kind.known:soft.Kind.Kn:=EqSoft.soft.Kind.Ac (.cons soft.Split.known .nil) fun x hp=>by
  obtain ⟨n,rfl,hn⟩:=Bl (x:=x) hp
  refine ⟨0,soft.Kind.out [.i n],[],?_,.int⟩
  rw [EqSoft.soft.Kind.ev,Cb hn]
  show _=some (DV.int .i64 (Be n))
  unfold Be An L5 C2
  simp only [Ay8,Ay6,Aq]
  have:=Jt n
  by_cases h1:D6 n=2047
  · by_cases h2:Dc n=0
    · simp [h1,h2]
    · have:((Dc n:Int)==0)=false:=by simp; exact h2
      simp [h1,this,h2]
  · have h1':((D6 n:Int)==2047)=false:=by simp; omega
    rw [h1']
    by_cases h3:0<D6 n
    · simp [h1,h3]
    · by_cases h4:0<Dc n
      · simp [h1,h3,h4]
      · simp [h1,h3,h4]
theorem soft.Sign.known:soft.Sign.Kn:=EqSoft.soft.Sign.Ac .nil fun x hp=>by
  obtain ⟨n,rfl,hn⟩:=Bl (x:=x) hp
  refine ⟨0,soft.Sign.out [.i n],[],?_,.bool⟩
  rw [EqSoft.soft.Sign.ev,Ajm hn]
  rfl
theorem Y7 (n:Nat):Kp n=!(decide (An n=3)||decide (An n=4)):=by
  have:=Jt n
  unfold Kp An
  by_cases h1:D6 n=2047
  · by_cases h2:Dc n=0<;>simp [h1,h2]
  · have:D6 n<2047:=by omega
    by_cases h3:0<D6 n
    · simp [h1,h3,this]
    · by_cases h4:0<Dc n<;>simp [h1,h3,h4,this]
theorem soft.Finite.known:soft.Finite.Kn:=EqSoft.soft.Finite.Ac (.cons soft.Kind.known .nil) fun x hp=>by
  obtain ⟨n,rfl,hn⟩:=Bl (x:=x) hp
  refine ⟨0,soft.Finite.out [.i n],[],?_,.bool⟩
  rw [EqSoft.soft.Finite.ev,Cb hn]
  show _=some (DV.bool (Da n))
  unfold Da Be
  rw [Ay8,Y7]
  by_cases h3:An n=3
  · simp [h3]
  · by_cases h4:An n=4
    · simp [h4]
    · have e3:((An n:Int)==3)=false:=by simp; omega
      have e4:((An n:Int)==4)=false:=by simp; omega
      simp [h3,h4,e3,e4]
theorem Alv {n:Nat} (hn:n<2^64):Atc .u64 (n:Int) (9223372036854775808:Int)=Dd n:=by
  rw [show (9223372036854775808:Int)=((2^63:Nat):Int) from rfl,Aqg hn (by decide),Aqv hn]
  unfold Dd Hs
  rw [Ay8]
theorem soft.Dv.known:soft.Dv.Kn:=EqSoft.soft.Dv.Ac .nil fun x hp=>by
  obtain ⟨n,rfl,hn⟩:=Bl (x:=x) hp
  refine ⟨0,soft.Dv.out [.i n],[],?_,.int⟩
  rw [EqSoft.soft.Dv.ev,Alv hn]
  rfl
theorem soft.Gp.known:soft.Gp.Kn:=EqSoft.soft.Gp.Ac (.cons soft.Split.known .nil) fun x hp=>by
  obtain ⟨n,rfl,hn⟩:=Bl (x:=x) hp
  refine ⟨0,soft.Gp.out [.i n],[],?_,Wk.G6 (.cons .int (.cons .int .nil))⟩
  rw [EqSoft.soft.Gp.ev,Cb hn]
  show _=some (DV.tup [.int .u64 (Bw n),.int .i64 (Bh n)])
  have hf:=Kl n
  have hp:=Jt n
  unfold Bw Bh L5 C2 Ax A3
  rw [Ay8]
  by_cases h:D6 n=0
  · simp [h]
  · have e:((D6 n:Int)==0)=false:=by simp; omega
    have e2:Io .u64 ((Dc n:Nat):Int) (4503599627370496:Int)=((Dc n+2^52:Nat):Int):=by
      rw [show (4503599627370496:Int)=((1*2^52:Nat):Int) from rfl,Ams (by omega) (by omega)]
      congr 1; omega
    rw [e,e2,Am (by omega) (by omega)]
    simp [h]
namespace EqRefD
def A4.Neg.A8:List (Nat × Entry):=[]
def A4.Neg.E:Env:=A9 (A7 A4.Neg.A8) (fun _=>false) (fun _=>none) (fun _=>none)
theorem A4.Neg.ev (N:Nat) (x:Int):Bp A4.Neg.E N Tryz.f142 (Al Tryz.f142) [.int .u64 x]=some (.bool ((Bj (Int.tdiv x 9223372036854775808))==(1:Int))):=by kernel_rfl
abbrev _root_.Go.Proofs.S1.A4.Neg.Kn:=A5 Tryz.prog 142 A4.Neg.spec
theorem A4.Neg.Ac (hk:Ay Tryz.prog A4.Neg.A8) (h:∀ (x:Int),A4.Neg.pre [.i x]=true→Ba A4.Neg.E Tryz.f142 [.int .u64 x] (A4.Neg.out [.i x])):A4.Neg.Kn :=
  Aj (A1 hk _ _ _) Tryz.func142 (by kernel_rfl) (by kernel_rfl) h
def A4.Power.A8:List (Nat × Entry):=[]
def A4.Power.E:Env:=A9 (A7 A4.Power.A8) (fun _=>false) (fun _=>none) (fun _=>none)
theorem A4.Power.ev (N:Nat) (x:Int):Bp A4.Power.E N Tryz.f140 (Al Tryz.f140) [.int .u64 x]=some (.int .i64 (Ab (Bj (Int.tdiv (Int.tmod x 9223372036854775808) 4503599627370496)))):=by kernel_rfl
abbrev _root_.Go.Proofs.S1.A4.Power.Kn:=A5 Tryz.prog 140 A4.Power.spec
theorem A4.Power.Ac (hk:Ay Tryz.prog A4.Power.A8) (h:∀ (x:Int),A4.Power.pre [.i x]=true→Ba A4.Power.E Tryz.f140 [.int .u64 x] (A4.Power.out [.i x])):A4.Power.Kn :=
  Aj (A1 hk _ _ _) Tryz.func140 (by kernel_rfl) (by kernel_rfl) h
def A4.Lz.A8:List (Nat × Entry):=[]
def A4.Lz.E:Env:=A9 (A7 A4.Lz.A8) (fun _=>false) (fun _=>none) (fun _=>none)
theorem A4.Lz.ev (N:Nat) (x:Int):Bp A4.Lz.E N Tryz.f141 (Al Tryz.f141) [.int .u64 x]=some (.int .u64 (Int.tmod x 4503599627370496)):=by kernel_rfl
abbrev _root_.Go.Proofs.S1.A4.Lz.Kn:=A5 Tryz.prog 141 A4.Lz.spec
theorem A4.Lz.Ac (hk:Ay Tryz.prog A4.Lz.A8) (h:∀ (x:Int),A4.Lz.pre [.i x]=true→Ba A4.Lz.E Tryz.f141 [.int .u64 x] (A4.Lz.out [.i x])):A4.Lz.Kn :=
  Aj (A1 hk _ _ _) Tryz.func141 (by kernel_rfl) (by kernel_rfl) h
def A4.Kind.A8:List (Nat × Entry):=[(141,A4.Lz.spec),(140,A4.Power.spec)]
def A4.Kind.E:Env:=A9 (A7 A4.Kind.A8) (fun _=>false) (fun _=>none) (fun _=>none)
theorem A4.Kind.ev (N:Nat) (x:Int):Bp A4.Kind.E N Tryz.f62 (Al Tryz.f62) [.int .u64 x]=bif (K4 x) then bif ((L5 x)==(2047:Int)) then bif (K4 x) then bif ((C2 x)==(0:Int)) then some (.int .i64 3) else some (.int .i64 4) else none else bif (K4 x) then bif (A6 0 (L5 x)) then some (.int .i64 2) else bif (K4 x) then bif (A6 0 (C2 x)) then some (.int .i64 1) else some (.int .i64 0) else none else none else none:=by kernel_rfl
abbrev _root_.Go.Proofs.S1.A4.Kind.Kn:=A5 Tryz.prog 62 A4.Kind.spec
theorem A4.Kind.Ac (hk:Ay Tryz.prog A4.Kind.A8) (h:∀ (x:Int),A4.Kind.pre [.i x]=true→Ba A4.Kind.E Tryz.f62 [.int .u64 x] (A4.Kind.out [.i x])):A4.Kind.Kn :=
  Aj (A1 hk _ _ _) Tryz.func62 (by kernel_rfl) (by kernel_rfl) h
def A4.Finite.A8:List (Nat × Entry):=[(140,A4.Power.spec)]
def A4.Finite.E:Env:=A9 (A7 A4.Finite.A8) (fun _=>false) (fun _=>none) (fun _=>none)
theorem A4.Finite.ev (N:Nat) (x:Int):Bp A4.Finite.E N Tryz.f131 (Al Tryz.f131) [.int .u64 x]=bif (K4 x) then some (.bool (A6 (L5 x) 2047)) else none:=by kernel_rfl
abbrev _root_.Go.Proofs.S1.A4.Finite.Kn:=A5 Tryz.prog 131 A4.Finite.spec
theorem A4.Finite.Ac (hk:Ay Tryz.prog A4.Finite.A8) (h:∀ (x:Int),A4.Finite.pre [.i x]=true→Ba A4.Finite.E Tryz.f131 [.int .u64 x] (A4.Finite.out [.i x])):A4.Finite.Kn :=
  Aj (A1 hk _ _ _) Tryz.func131 (by kernel_rfl) (by kernel_rfl) h
def A4.Dv.A8:List (Nat × Entry):=[(142,A4.Neg.spec)]
def A4.Dv.E:Env:=A9 (A7 A4.Dv.A8) (fun _=>false) (fun _=>none) (fun _=>none)
theorem A4.Dv.ev (N:Nat) (x:Int):Bp A4.Dv.E N Tryz.f163 (Al Tryz.f163) [.int .u64 x]=bif (Ag x) then bif (D0 x) then some (.int .u64 (Bj (x-9223372036854775808))) else some (.int .u64 (Bj (x+9223372036854775808))) else none:=by kernel_rfl
abbrev _root_.Go.Proofs.S1.A4.Dv.Kn:=A5 Tryz.prog 163 A4.Dv.spec
theorem A4.Dv.Ac (hk:Ay Tryz.prog A4.Dv.A8) (h:∀ (x:Int),A4.Dv.pre [.i x]=true→Ba A4.Dv.E Tryz.f163 [.int .u64 x] (A4.Dv.out [.i x])):A4.Dv.Kn :=
  Aj (A1 hk _ _ _) Tryz.func163 (by kernel_rfl) (by kernel_rfl) h
def Ff.Canon.A8:List (Nat × Entry):=[(62,A4.Kind.spec)]
def Ff.Canon.E:Env:=A9 (A7 Ff.Canon.A8) (fun _=>false) (fun _=>none) (fun _=>none)
theorem Ff.Canon.ev (N:Nat) (x:Int):Bp Ff.Canon.E N Tryz.f168 (Al Tryz.f168) [.int .u64 x]=bif (K4 x) then bif ((Be x)==(4:Int)) then some (.int .u64 9221120237041090560) else some (.int .u64 x) else none:=by kernel_rfl
abbrev _root_.Go.Proofs.S1.Ff.Canon.Kn:=A5 Tryz.prog 168 Ff.Canon.spec
theorem Ff.Canon.Ac (hk:Ay Tryz.prog Ff.Canon.A8) (h:∀ (x:Int),Ff.Canon.pre [.i x]=true→Ba Ff.Canon.E Tryz.f168 [.int .u64 x] (Ff.Canon.out [.i x])):Ff.Canon.Kn :=
  Aj (A1 hk _ _ _) Tryz.func168 (by kernel_rfl) (by kernel_rfl) h
abbrev _root_.Go.Proofs.S1.Ff.Canon.nb.Kn:Prop:=A5 Tryz.prog 168 Ff.Canon.nb.spec
end EqRefD
open EqRefD
theorem Ke (n m:Nat):Int.tdiv (n:Int) (m:Int)=((n / m:Nat):Int):=rfl
theorem Kd (n m:Nat):Int.tmod (n:Int) (m:Int)=((n%m:Nat):Int):=rfl
theorem Ats:(9223372036854775808:Int)=((2^63:Nat):Int):=rfl
theorem Att:(4503599627370496:Int)=((2^52:Nat):Int):=rfl
theorem A4.Neg.known:A4.Neg.Kn:=A4.Neg.Ac .nil fun x hp=>by
  obtain ⟨n,rfl,hn⟩:=Bl (x:=x) hp
  refine ⟨0,A4.Neg.out [.i n],[],?_,.bool⟩
  rw [A4.Neg.ev,Ats,Ke,Dt (by omega) (by omega)]
  show _=some (DV.bool (D0 n))
  unfold D0 Bu
  rw [Ay8]
  congr 2
  rw [Azm]
  simp only [beq_iff_eq,Azd]
  omega
theorem A4.Power.known:A4.Power.Kn:=A4.Power.Ac .nil fun x hp=>by
  obtain ⟨n,rfl⟩:=Ur (x:=x) hp
  refine ⟨0,A4.Power.out [.i n],[],?_,.int⟩
  rw [A4.Power.ev,Ats,Att,Kd,Ke,Dt (by omega) (by omega),Am (by omega) (by omega)]
  show _=some (DV.int .i64 (L5 n))
  unfold L5 D6
  rw [Ay8]
  congr 2
  have:n%2^63 / 2^52=n / 2^52%2048:=by omega
  rw [this]
theorem A4.Lz.known:A4.Lz.Kn:=A4.Lz.Ac .nil fun x hp=>by
  obtain ⟨n,rfl⟩:=Ur (x:=x) hp
  refine ⟨0,A4.Lz.out [.i n],[],?_,.int⟩
  rw [A4.Lz.ev,Att,Kd]
  rfl
theorem A4.Kind.known:A4.Kind.Kn:=A4.Kind.Ac (.cons A4.Lz.known (.cons A4.Power.known .nil)) fun x hp=>by
  obtain ⟨n,rfl⟩:=Ur (x:=x) hp
  refine ⟨0,A4.Kind.out [.i n],[],?_,.int⟩
  rw [A4.Kind.ev,I4]
  show _=some (DV.int .i64 (Be n))
  unfold Be An L5 C2
  simp only [Ay8,Ay6,Aq]
  have:=Jt n
  by_cases h1:D6 n=2047
  · by_cases h2:Dc n=0
    · simp [h1,h2]
    · have:((Dc n:Int)==0)=false:=by simp; exact h2
      simp [h1,this,h2]
  · have h1':((D6 n:Int)==2047)=false:=by simp; omega
    rw [h1']
    by_cases h3:0<D6 n
    · simp [h1,h3]
    · by_cases h4:0<Dc n
      · simp [h1,h3,h4]
      · simp [h1,h3,h4]
theorem A4.Finite.known:A4.Finite.Kn:=A4.Finite.Ac (.cons A4.Power.known .nil) fun x hp=>by
  obtain ⟨n,rfl,hn⟩:=Bl (x:=x) hp
  refine ⟨0,A4.Finite.out [.i n],[],?_,.bool⟩
  rw [A4.Finite.ev,I4,Ay6,Aq]
  show _=some (DV.bool (Da n))
  unfold Da Kp L5
  rw [Ay8]
  have:decide ((D6 n:Int)<2047)=decide (D6 n<2047):=decide_eq_decide.2 (by omega)
  rw [this]
theorem A4.Dv.known:A4.Dv.Kn:=A4.Dv.Ac (.cons A4.Neg.known .nil) fun x hp=>by
  obtain ⟨n,rfl,hn⟩:=Bl (x:=x) hp
  refine ⟨0,A4.Dv.out [.i n],[],?_,.int⟩
  rw [A4.Dv.ev,Cb hn,Ay6]
  show _=some (DV.int .u64 (Dd n))
  unfold Dd Hs D0 Bu
  rw [Ay8,Om,Om]
  by_cases h:2^63≤n
  · have e:((n:Int)-9223372036854775808)%18446744073709551616=((n-2^63:Nat):Int):=by omega
    rw [if_pos h,Ay7 h,Ay6,e]
  · have e:((n:Int)+9223372036854775808)%18446744073709551616=((n+2^63:Nat):Int):=by omega
    rw [if_neg h,Azb h,Aza,e]
theorem Ff.Canon.known:Ff.Canon.Kn:=Ff.Canon.Ac (.cons A4.Kind.known .nil) fun x hp=>by
  obtain ⟨n,rfl⟩:=Ur (x:=x) hp
  refine ⟨0,Ff.Canon.out [.i n],[],?_,.int⟩
  rw [Ff.Canon.ev,I4,Ay6]
  show _=some (DV.int .u64 (Zv n))
  unfold Zv D4 Be
  rw [Ay8]
  by_cases h:An n=4
  · have:((An n:Int)==4)=true:=by simp; omega
    rw [this,if_pos h]; rfl
  · have:((An n:Int)==4)=false:=by simp; omega
    rw [this,if_neg h]; rfl
theorem Amd {n m:Nat} (h:Qm n m):D4 n=D4 m:=by
  rcases h with rfl | ⟨h1,h2⟩
  · rfl
  · unfold F2 at h1 h2
    rw [Yo n] at h1
    rw [Yo m] at h2
    unfold D4
    rw [if_pos (of_decide_eq_true h1),if_pos (of_decide_eq_true h2)]
theorem Ary {c:Ctx} {w:World} {d:DV} {vs:List Value} (h:Bd c w [d] vs):∃ v,vs=[v]∧Ao c w d v:=by
  simp only [Bd] at h
  obtain ⟨u,us,rfl,hv,rfl⟩:=h
  exact ⟨u,rfl,hv⟩
theorem Ff.Canon.Aon:Ff.Canon.nb.Kn:=by
  refine ⟨fun args ha=>?_,Ff.Canon.known.call⟩
  unfold Ff.Canon.nb.spec entry at ha ⊢
  simp only at ha ⊢
  cases hd:Mr [.nb] args with
  | none=>rw [hd] at ha; cases ha
  | some bs =>
    rw [hd] at ha
    obtain ⟨ds,h1,h2⟩:=Mq hd
    obtain ⟨x,_,_,rfl,rfl,he⟩:=h1.Aut
    obtain ⟨rfl,rfl⟩:=he.Ac3
    refine Ok.args (args:=[.nb x]) ?_ h2
    intro w vals I hI hl
    obtain ⟨v,hv,hr⟩:=Ary hl
    simp only [Ao] at hr
    obtain ⟨m,rfl,hm⟩:=hr
    have e:Ff.Canon.nb.out [.f x]=Ff.Canon.spec.out [.int .u64 (m:Int)]:=by
      show DV.int .u64 (Ga x)=DV.int .u64 (Zv (m:Int))
      unfold Ga Zv
      rw [Ay8,Amd hm]
    show Calls _ _ _ _ fun e' w'=>∃ v own,e'=.returned v∧Go.RowKit.Below w.heap.size w w'∧Akj own w w'∧Ao (D3 I own w w') w' (Ff.Canon.nb.out [.f x]) v
    rw [e]
    exact Ff.Canon.known.meets [.int .u64 (m:Int)] (I4 m) w vals I hI (by rw [hv]; exact ⟨_,_,rfl,rfl,rfl⟩)
end Go.Proofs.S1
end
