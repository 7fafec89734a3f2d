/- A verified evaluator of the program's form and its use for this seat: S1PLaw22, S1PLaw22F. -/
import Derived.Test.YtjbokjpbiobjpaaGreatTL
import Derived.Test.YtjbokjpbiobjpaaGreatTE
set_option linter.unusedVariables false
set_option linter.unusedSimpArgs false
open Int (toNat)
open List (length getD)
namespace Go.Proofs.S1
open Go Go.Den Go.Rnd Go.Proofs
open EqLaw22
theorem Cq.one.known:Cq.one.Kn:=Cq.one.Ac .nil fun b _ =>
 ⟨0,_,[4],Cq.one.ev 0 b,Ym (List.mem_singleton.2 rfl)⟩
theorem Atd:Ea 1 1 [4607182418800017408] 1 1 [4611686018427387904] 0 1 [] 4607182418800017408=(1,1,[4611686018427387904],0):=by decide +kernel
theorem Ala {x:Int} (h:decide (0≤x∧x<18446744073709551616)=true):Ai [x]=true:=Ar.2 fun y hy=>by
 rw [List.mem_singleton.1 hy]; exact Ar.2 (A17 h)
theorem Cq.G5.known:Cq.G5.Kn:=Cq.G5.Ac (.cons Cq.one.known (.cons Dq.Kw.known .nil)) fun _ _=>by
 have a1:Rr [4607182418800017408] [4611686018427387904] []=true:=by
  unfold Rr
  rw [Ala (by decide),Ala (x:=4611686018427387904) (by decide),I6]; rfl
 have a2:Af 4607182418800017408=true:=Ar.2 (by decide)
 refine ⟨0,Cq.G5.out [],[],?_,.bool⟩
 rw [Cq.G5.ev,a1,a2,Atd]
 rfl
open EqRidge EqLaw22
theorem SL.app {a b x y:List Int} (h:SL a b) (g:SL x y):SL (a++x) (b++y):=by
 induction h with
 | nil=>exact g
 | cons h _ ih=>exact .cons h ih
theorem Ay4 {x:Int} (h1:Af x=true) (h2:Ck x=true):Fw x:=⟨h1,h2⟩
theorem Yq:∀ {h:List Int},Ai h=true→C2 h=true→SL (Dk 0 h) (List.replicate h.length 0)
 | [],_,_=>.nil
 | x::h,a,f=>by
   obtain ⟨f1,f2⟩:=Ae.1 (show (Ck x&&C2 h)=true from f)
   have a:=Ar.1 a
   exact .cons (.inr ⟨Avj (Ay4 (a x A2w) f1),.inl rfl⟩) (Yq (Ar.2 fun y hy=>a y (A2m _ hy)) f2)
theorem Cq.Dn.known:Cq.Dn.Kn:=Cq.Dn.Ac (.cons Cq.G5.known (.cons Ak.Stack.known (.cons Ak.Bb.known (.cons A3.Dv.known (.cons Cn.Dh.known (.cons Cn.L7.known (.cons Dq.Kw.known .nil))))))) fun r c l p q m u v h hp=>by
 have h0:Rr l m h=true:=hp
 obtain ⟨h1,ah⟩:=Ae.1 (show ((Ai l&&Ai m)&&Ai h)=true from h0)
 obtain ⟨al,am⟩:=Ae.1 h1
 refine ⟨0,.bool true,[],?_,.bool⟩
 rw [Cq.Dn.ev,h0,G7,A1n,A1h,A1h]
 by_cases k:O4 r c l p q m u v h 0=0
 ·obtain ⟨k1,k2,k3,k4,k5,k6,k7,k8,k9⟩:=Amj k
  obtain ⟨R,C,rfl,rfl,r6,c6,hl⟩:=Ci (Ej k1).1
  obtain ⟨R',o,rfl,rfl,_,o6,hm⟩:=Ci (Ej k2).1
  obtain ⟨U,C',rfl,rfl,u6,_,hh⟩:=Ci (Ej k3).1
  obtain rfl:R'=R:=by omega
  obtain rfl:C'=C:=by omega
  obtain rfl:o=1:=by omega
  have ag:Ai (Bv (toNat (U:Int)) (toNat (C':Int)) fun _ _=>0)=true:=Gq fun _ _=>G7
  have a1:Ai (l++Dk 0 h)=true:=Ar.2 fun y hy=>(List.mem_append.1 hy).elim (Ar.1 al y) (Ar.1 (R0 0 h) y)
  have a3:Ai (l++Bv (toNat (U:Int)) (toNat (C':Int)) fun _ _=>0)=true:=Ar.2 fun y hy=>(List.mem_append.1 hy).elim (Ar.1 al y) (Ar.1 ag y)
  have a2:Ai (m++List.replicate (toNat (U:Int)) 0)=true:=Ar.2 fun y hy=>(List.mem_append.1 hy).elim (Ar.1 am y) (fun hy=>by rw [(List.mem_replicate.1 hy).2]; exact G7)
  have hg:(Bv (toNat (U:Int)) (toNat (C':Int)) fun _ _=>0).length=U*C':=by rw [Cc,A1j,A1j]
  have eg:(Bv (toNat (U:Int)) (toNat (C':Int)) fun _ _=>0)=List.replicate h.length 0:=by rw [Qb,hh,A1j,A1j]
  have es:SL (l++Dk 0 h) (l++Bv (toNat (U:Int)) (toNat (C':Int)) fun _ _=>0):=by
   rw [eg]; exact SL.app (.refl l) (Yq ah (Ej k3).2)
  have ee:=Ani (r:=(R':Int)+(U:Int)) (c:=(C':Int)) (p:=(R':Int)+(U:Int)) (q:=1) (b:=m++List.replicate (toNat (U:Int)) 0) es a1
  have eX:Ea (R':Int) (C':Int) l (R':Int) ((1:Nat):Int) m (U:Int) (C':Int) h 0=Dt ((R':Int)+(U:Int)) (C':Int) (l++Dk 0 h) ((R':Int)+(U:Int)) 1 (m++List.replicate (toNat (U:Int)) 0):=by
   rw [Akm k,Ar8 (by omega) c6 hl hh,show Aft (R':Int) ((1:Nat):Int) m (U:Int)=_ from Amb (by omega) hm]
   rfl
  rw [G9 k,A1l,Mn (show U≤6 by omega),Mn (show C'≤6 by omega),A1n,A1h,(Ej k1).1,Ft (show U≤6 by omega) c6 hg,A1i rfl,A1n,A1n,A1h,(Ej k2).1,A1i (show ((1:Nat):Int)=1 from rfl),A1n,A1n,A1h,a3,a2,A1n,A1h,eX]
  rw [← ee,A2h,A1h]
  by_cases z:(Dt ((R':Int)+(U:Int)) (C':Int) (l++Dk 0 h) ((R':Int)+(U:Int)) 1 (m++List.replicate (toNat (U:Int)) 0)).2.2.2=0
  ·obtain ⟨C,Q,Y,e1,_,_,_,e2,_⟩:=Agx a1 z
   obtain rfl:C'=C:=by omega
   rw [e2,A2h]
   rfl
  ·rw [Vw z]
   rfl
 ·rw [Vw k,A1h,Uv rfl k]
  show some (DV.bool (bif bif O4 r c l p q m u v h 0 !=0 then ((length ([]:List Int):Int)==0) else false then true else false))=_
  rw [Vw k]
  rfl
end Go.Proofs.S1
