/- A verified evaluator of the program's form and its use for this seat: S1PHouse, S1PApply, S1EqSol, S1PTri, S1EqFew, S1PSol, S1EqQr, S1PQr, S1PQrA, S1EqRef17, S1PRef17, S1EqRef14, S1PRef13, S1PRef14, S1EqGiv, S1EqRef12, SvdL, S1PGiv, S1EqSort. -/
import Derived.Test.YthajngaadbanfaaGreatTK
import Derived.Test.YthajngaadbanfaaGreatTJ
import Derived.Test.YthajngaadbanfaaGreatTE
import Derived.Test.YthajngaadbanfaaGreatTF
import Derived.Test.YthajngaadbanfaaGreatTI
set_option linter.unusedVariables false
set_option linter.unusedSimpArgs false
noncomputable section
open Int (toNat)
open List (length getD)
open Go.Proofs.Tryz
namespace Go.Proofs.S1
open Go Go.Den Go.Rnd Go.Proofs
open EqHouse
theorem Zi (x:Int):((Bz x) !=(0:Int))=!(decide (Bz x=0)):=by
 rw [A4w]; simp
theorem Afg (N:Nat) {x:List Int} (hx:Bs x=true):∀ (k i F:Nat),i+k=x.length→k<F→As.B2.L0 N F x (i:Int)=some (.bool (E7 (x.drop i))):=by
 obtain ⟨hl,hu⟩:=Hs hx
 intro k
 induction k with
 | zero =>
   intro i F hi hF
   obtain ⟨F,rfl⟩:∃ G,F=G+1:=⟨F-1,by omega⟩
   rw [As.B2.Ar,Av,A4l (by omega),A4k,A4u (by omega)]; rfl
 | succ k ih =>
   intro i F hi hF
   obtain ⟨F,rfl⟩:∃ G,F=G+1:=⟨F-1,by omega⟩
   rw [As.B2.Ar,Av,A4h (show (i:Int)<(x.length:Int) by omega),A4g,A4h (show (0:Int)≤(i:Int) by omega),A4m,A4g,A4i,hu i (by omega),A4g,Zi,Jf (by omega)]
   unfold E7
   rw [List.all_cons]
   cases decide (Bz (x.getD i 0)=0) with
   | false=>rfl
   | true =>
     rw [A5f,A4k,A5t,An (by omega) (by omega)]
     exact ih (i+1) F (by omega) (by omega)
theorem As.B2.known:As.B2.Kn:=As.B2.Ad (.cons soft.Kind.known .nil) fun x hp=>by
 refine ⟨x.length+1,As.B2.out [.l x],[],?_,.bool⟩
 rw [As.B2.ev]
 exact Afg (x.length+1) hp x.length 0 (x.length+1) (by omega) (by omega)
theorem Ao2 (N:Nat) {x:List Int} (hx:Bs x=true):∀ (k i F:Nat),i+k=x.length→k<F→As.lead.L0 N F x (i:Int)=some (.int .u64 (Qm (x.drop i))):=by
 obtain ⟨hl,hu⟩:=Hs hx
 intro k
 induction k with
 | zero =>
   intro i F hi hF
   obtain ⟨F,rfl⟩:∃ G,F=G+1:=⟨F-1,by omega⟩
   rw [As.lead.Ar,Av,A4l (by omega),A4k,A4u (by omega)]; rfl
 | succ k ih =>
   intro i F hi hF
   obtain ⟨F,rfl⟩:∃ G,F=G+1:=⟨F-1,by omega⟩
   rw [As.lead.Ar,Av,A4h (show (i:Int)<(x.length:Int) by omega),A4g,A4h (show (0:Int)≤(i:Int) by omega),A4m,A4g,A4i,hu i (by omega),A4g,Zi,Jf (by omega),Qm]
   by_cases h:Bz (x.getD i 0)=0
   ·rw [A4h h,A43 h,A5f,A4k,An (by omega) (by omega)]
    exact ih (i+1) F (by omega) (by omega)
   ·rw [A4l h,A42 h]; rfl
theorem As.lead.known:As.lead.Kn:=As.lead.Ad (.cons soft.Kind.known .nil) fun x hp=>by
 refine ⟨x.length+1,As.lead.out [.l x],[],?_,.int⟩
 rw [As.lead.ev]
 exact Ao2 (x.length+1) hp x.length 0 (x.length+1) (by omega) (by omega)
theorem Q0 {x:List Int} {i:Nat} (h:i<x.length) (f:Int→Int):(x.take (i+1)).map f=(x.take i).map f++[f (x.getD i 0)]:=by
 rw [List.take_succ_eq_append_getElem h,List.map_append,A4q,A4x h]; rfl
theorem Aev (N:Nat) {x:List Int} {e:Int} (hx:Bs x=true) (hl:x.length≤1000) (he:-2300≤e∧e≤2300):∀ (k i F:Nat),i+k=x.length→k<F →
 As.Bf.L0 N F x e (i:Int) ((x.take i).map fun b=>Bg b e)=some (.ints (.own 100005 tB) .u64 (A9 x e)):=by
 obtain ⟨_,hu⟩:=Hs hx
 intro k
 induction k with
 | zero =>
   intro i F hi hF
   obtain ⟨F,rfl⟩:∃ G,F=G+1:=⟨F-1,by omega⟩
   rw [As.Bf.Ar,Av,A4l (by omega),A4k,List.take_of_length_le (by omega)]; rfl
 | succ k ih =>
   intro i F hi hF
   obtain ⟨F,rfl⟩:∃ G,F=G+1:=⟨F-1,by omega⟩
   rw [As.Bf.Ar,Av,A4h (show (i:Int)<(x.length:Int) by omega),A4g,A4h (show (0:Int)≤(i:Int) by omega),A4m,A4g,A4i,
    show Df (getD x i 0) e=true from Ac.2 ⟨hu i (by omega),Aq.2 he⟩,A4g,A4h (by rw [A5m,List.length_take]; unfold Ha; omega),A4g,An (by omega) (by omega)]
   have:=ih (i+1) F (by omega) (by omega)
   rw [Q0 (by omega)] at this
   exact this
theorem As.Bf.known:As.Bf.Kn:=As.Bf.Ad (.cons Ag.Bu.known .nil) fun x k hp=>by
 obtain ⟨h1,h2⟩:=Ac.1 hp
 have h2:=Aq.1 h2
 refine ⟨x.length+1,.ints (.own 100005 tB) .u64 (A9 x k),[100005],?_,.drop _ _ _ _ (List.mem_singleton.2 rfl)⟩
 rw [As.Bf.ev]
 exact Aev (x.length+1) h1 h2.1 h2.2 x.length 0 (x.length+1) (by omega) (by omega)
theorem As.Gp.known:As.Gp.Kn:=As.Gp.Ad .nil fun i _=>⟨0,As.Gp.out [.i i],[],by rw [As.Gp.ev]; rfl,.int⟩
theorem As.Gn.known:As.Gn.Kn:=As.Gn.Ad (.cons Ag.Div.known .nil) fun i y d hp=>by
 obtain ⟨h1,h2⟩:=Ac.1 (show ((B5 (0≤i∧i<length y)&&Al y)&&Af d)=true from hp)
 obtain ⟨h3,h4⟩:=Ac.1 h1
 have h3:=Aq.1 h3
 refine ⟨0,As.Gn.out [.i i,.l y,.i d],[],?_,.int⟩
 rw [As.Gn.ev,A4h h3.1,A4h h3.2,J0 h4,h2]; rfl
theorem Kz (n i:Nat) (f:Nat→Int) (h:i+1=n):Kg n f=Ae9::(List.range i).map fun j=>f (j+1):=by unfold Kg; rw [show n-1=i by omega]
theorem Al1 {n:Nat} (f:Nat→Int) (h:n≠0):(((decide ((0:Int)≤(n:Int)))&&(decide ((n:Int)≤(n:Int))))&&((decide ((0:Int)≤(n:Int)))&&(decide ((n:Int)≤(length (Kg n f):Int)))))=true ∧
 List.take (toNat ((n:Int)-(0:Int))) (List.drop 0 (Kg n f))=Kg n f:=by
 have:=Q5 h f
 refine ⟨?_,?_⟩
 ·rw [A4h (by omega),A4h (by omega),A4h (by omega)]; rfl
 ·rw [List.drop_zero,List.take_of_length_le (by omega)]
theorem Ab8 (N:Nat) {n:Nat} (h64:n≤64) (h0:n≠0):∀ (k i F:Nat),i+1+k=n→k<F →
 As.row.Zero.L0 N F (n:Int) ((i+1:Nat):Int) (Kg (i+1) fun _=>0)=some (.ints .fresh .u64 (Kg n fun _=>0)):=by
 intro k
 induction k with
 | zero =>
   intro i F hi hF
   obtain ⟨F,rfl⟩:∃ G,F=G+1:=⟨F-1,by omega⟩
   obtain rfl:i+1=n:=by omega
   obtain ⟨e1,e2⟩:=Al1 (fun _=>0) h0
   rw [As.row.Zero.Ar,Av,A4l (by omega),A4k,e1,A4g,e2]
 | succ k ih =>
   intro i F hi hF
   obtain ⟨F,rfl⟩:∃ G,F=G+1:=⟨F-1,by omega⟩
   rw [As.row.Zero.Ar,Av,A4h (by omega),A4g,A4h (by rw [Q5 (by omega)]; unfold Ha; omega),A4g,An (by omega) (by omega)]
   have:=ih (i+1) F (by omega) (by omega)
   rw [Kz (i+1+1) (i+1) _ rfl,Li] at this
   rw [Kz (i+1) i _ rfl]
   exact this
theorem As.row.Zero.known:As.row.Zero.Kn:=As.row.Zero.Ad (.cons As.Gp.known .nil) fun n hp=>by
 have hp:=Aq.1 (show B5 (1≤n∧n≤64)=true from hp)
 obtain ⟨m,rfl⟩:∃ m:Nat,n=m:=⟨n.toNat,by omega⟩
 refine ⟨65,As.row.Zero.out [.i m],[],?_,.Jh⟩
 show _=some (DV.ints .fresh .u64 (Kg (toNat (m:Int)) fun _=>0))
 rw [As.row.Zero.ev,A4i]
 exact Ab8 65 (by omega) (by omega) (m-1) 0 65 (by omega) (by omega)
theorem Ae0 (N:Nat) {n:Nat} {y:List Int} {d:Int} (h64:n≤64) (h0:n≠0) (hy:n=y.length) (al:Al y=true) (hd:Af d=true):∀ (k i F:Nat),i+1+k=n→k<F →
 As.row.Div.L0 N F (n:Int) y d ((i+1:Nat):Int) (Kg (i+1) fun j=>Ey (y.getD j 0) d)=some (.ints .fresh .u64 (Kg n fun j=>Ey (y.getD j 0) d)):=by
 intro k
 induction k with
 | zero =>
   intro i F hi hF
   obtain ⟨F,rfl⟩:∃ G,F=G+1:=⟨F-1,by omega⟩
   obtain rfl:i+1=n:=by omega
   obtain ⟨e1,e2⟩:=Al1 (fun j=>Ey (y.getD j 0) d) h0
   rw [As.row.Div.Ar,Av,A4l (by omega),A4k,e1,A4g,e2]
 | succ k ih =>
   intro i F hi hF
   obtain ⟨F,rfl⟩:∃ G,F=G+1:=⟨F-1,by omega⟩
   rw [As.row.Div.Ar,Av,A4h (by omega),A4g,Aq.2 (show 0≤((i+1:Nat):Int)∧((i+1:Nat):Int)<(y.length:Int) by omega),al,hd,A4m,A4m,A4g,A4h (by rw [Q5 (by omega)]; unfold Ha; omega),A4g,An (by omega) (by omega),A4i]
   have:=ih (i+1) F (by omega) (by omega)
   rw [Kz (i+1+1) (i+1) _ rfl,Li] at this
   rw [Kz (i+1) i _ rfl]
   exact this
theorem As.row.Div.known:As.row.Div.Kn:=As.row.Div.Ad (.cons As.Gn.known .nil) fun n y d hp=>by
 obtain ⟨h1,h2⟩:=Ac.1 (show ((B5 (1≤n∧n≤64∧n=length y)&&Al y)&&Af d)=true from hp)
 obtain ⟨h3,h4⟩:=Ac.1 h1
 have h3:=Aq.1 h3
 obtain ⟨m,rfl⟩:∃ m:Nat,n=m:=⟨n.toNat,by omega⟩
 refine ⟨65,As.row.Div.out [.i m,.l y,.i d],[],?_,.Jh⟩
 show _=some (DV.ints .fresh .u64 (Kg (toNat (m:Int)) fun j=>Ey (getD y j 0) d))
 rw [As.row.Div.ev,A4i]
 exact Ae0 65 (by omega) (by omega) (by omega) h4 h2 (m-1) 0 65 (by omega) (by omega)
theorem Ta {x:List Int} {k:Int} {j:Nat} (h:j<x.length):(A9 x k).getD j 0=Bg (x.getD j 0) k:=by
 unfold A9
 rw [A4q,A5x,A4x h,A4q,A4x h]; rfl
theorem Ac5 (x:List Int) (k:Int):(A9 x k).length=x.length:=by unfold A9; rw [A5m]
theorem Ac6 {x:List Int} (k:Int) (h:Al x=true):Al (A9 x k)=true:=Ty fun y hy=>by
 obtain ⟨b,hb,rfl⟩:=List.mem_map.1 hy
 exact G8 (Aq.1 h b hb)
theorem Zh:∀ {x:List Int},Al x=true→Af (Qm x)=true
 | [],_=>Lb
 | b::l,h=>by
   unfold Qm
   split
   ·exact Zh (Ty fun y hy=>Aq.1 h y (A5l _ hy))
   ·exact Aq.1 h b A5v
theorem Aec {x:List Int} (h:Bs x=true):Al x=true:=Aq.2 (Aq.1 h).2
theorem Nq {drops:List Nat} {g:W3}:Wk drops .nil (.ints g .u64 []):=.nil g .u64
theorem Ac8 {n:Nat} {f g:Nat→Int} (h:∀ j,j<n→f j=g j):Kg n f=Kg n g:=by
 unfold Kg
 congr 1
 exact List.map_congr_left fun j hj=>h _ (by have:=List.mem_range.1 hj; omega)
theorem As.Bn.known:As.Bn.Kn:=As.Bn.Ad (.cons compare.K7.known (.cons As.lead.known (.cons As.B2.known (.cons (A8.alt As.row.Zero.known As.row.Div.known) (.cons As.Bf.known (.cons soft.Finite.known (.cons soft.Du.known (.cons soft.Sign.known (.cons Ag.Bx.known (.cons Ag.Div.known (.cons Ag.Finite.known (.cons Ag.Norm.known (.cons Ag.Bu.known (.cons Ag.Sub.known .nil)))))))))))))) fun x hp=>by
 have hx:Bs x=true:=hp
 have al:=Aec hx
 have he:=Rm (Bk x)
 show ∃ N dv drops,_=some dv∧Wk drops dv (DV.tup [.ints .fresh .u64 (C1 x).1,.int .u64 (C1 x).2.1,.int .u64 (C1 x).2.2.1,.int .i64 (C1 x).2.2.2])
 unfold C1
 by_cases h1:x.length=0∨64<x.length
 ·rw [A43 h1]
  refine ⟨0,.tup [.nil,.int .u64 0,.int .u64 0,.int .i64 3],[],?_,Wk.Hm (.cons Nq (.cons .int (.cons .int (.cons .int .nil))))⟩
  have:(((length x:Int)==(0:Int))||(Bb (64:Int) (length x:Int)))=true:=by
   rw [Av,Bool.or_eq_true,beq_iff_eq,A4n]; omega
  rw [As.Bn.ev,this,A4g]
 have c1:(((length x:Int)==(0:Int))||(Bb (64:Int) (length x:Int)))=false:=by
  rw [Av,Bool.or_eq_false_iff,A5b,A4z]; omega
 rw [A42 h1]
 by_cases h2:Dc x=true
 ·rw [A43 h2]
  unfold Mz
  have ok1:Bs (x.drop 1)=true:=Fu (Ty fun y hy=>Aq.1 al y (List.mem_of_mem_drop hy)) (by rw [List.length_drop]; omega)
  have d1:decide ((1:Int)≤(x.length:Int))=true:=A4h (by omega)
  have d0:decide ((0:Int)<(x.length:Int))=true:=A4h (by omega)
  by_cases h3:E7 (x.drop 1)=true
  ·rw [A43 h3]
   refine ⟨0,.tup [.ints .fresh .u64 (Kg x.length fun _=>0),.int .u64 0,.int .u64 (x.getD 0 0),.int .i64 0],[],?_,Wk.Hm (.cons .Jh (.cons .int (.cons .int (.cons .int .nil))))⟩
   rw [As.Bn.ev,c1,A4k,hx,A4g,h2,A5f,A4k,d1,A4g,ok1,A4g,h3,A4g,Aq.2 (show 1≤(x.length:Int)∧(x.length:Int)≤64 by omega),A4g,d0,A4g,A4i]
  ·rw [A42 h3]
   have h3:E7 (x.drop 1)=false:=by simpa using h3
   have ew:Ab (0-B1 (Bk x))=-B1 (Bk x):=by rw [An (by omega) (by omega)]; omega
   have ly:=Ac5 x (-B1 (Bk x))
   have ay:=Ac6 (-B1 (Bk x)) al
   have oky:Bs (A9 x (-B1 (Bk x)))=true:=Fu ay (by omega)
   have gy:=Ta (x:=x) (k:=-B1 (Bk x)) (j:=0) (by omega)
   have iy:=J0 ay 0
   have key:∀ mu:Int,muI x=mu→Af mu=true→∀ b:Bool,Dz (F4 x)=b→∃ dv:DV,(bif (!b) then
    some (.tup [.nil,.int .u64 (0:Int),.int .u64 (0:Int),.int .i64 (2:Int)])
    else some (.tup [.ints .fresh .u64 (Kg (toNat (length (A9 x (-B1 (Bk x))):Int)) (fun j=>Ey (getD (A9 x (-B1 (Bk x))) j 0) (E4 (getD (A9 x (-B1 (Bk x))) 0 0) mu))),.int .u64 (Ey (E4 mu (getD (A9 x (-B1 (Bk x))) 0 0)) mu),.int .u64 (Bg mu (B1 (Bk x))),.int .i64 (0:Int)]))=some dv ∧
    Wk [] dv (DV.tup [.ints .fresh .u64 (if Dz (F4 x)=true then (T5 x,Uw x,F4 x,(0:Int)) else ([],0,0,2)).1,.int .u64 (if Dz (F4 x)=true then (T5 x,Uw x,F4 x,(0:Int)) else ([],0,0,2)).2.1,.int .u64 (if Dz (F4 x)=true then (T5 x,Uw x,F4 x,(0:Int)) else ([],0,0,2)).2.2.1,.int .i64 (if Dz (F4 x)=true then (T5 x,Uw x,F4 x,(0:Int)) else ([],0,0,2)).2.2.2]):=by
    intro mu hmu _ b hb
    rw [hb]
    cases b with
    | false=>exact ⟨_,rfl,Wk.Hm (.cons Nq (.cons .int (.cons .int (.cons .int .nil))))⟩
    | true =>
      refine ⟨_,rfl,?_⟩
      rw [A43 rfl]
      dsimp only
      have e1:Kg (toNat (length (A9 x (-B1 (Bk x))):Int)) (fun j=>Ey (getD (A9 x (-B1 (Bk x))) j 0) (E4 (getD (A9 x (-B1 (Bk x))) 0 0) mu))=T5 x:=by
       unfold T5
       rw [A4i,ly,gy,← hmu]
       exact Ac8 fun j hj=>by rw [Ta hj]; rfl
      have e2:Ey (E4 mu (getD (A9 x (-B1 (Bk x))) 0 0)) mu=Uw x:=by
       unfold Uw
       rw [gy,hmu]; rfl
      have e3:Bg mu (B1 (Bk x))=F4 x:=by unfold F4; rw [hmu]
      rw [e1,e2,e3]
      exact Wk.Hm (.cons .Jh (.cons .int (.cons .int (.cons .int .nil))))
   have dz:decide ((0:Int)<((A9 x (-B1 (Bk x))).length:Int))=true:=A4h (by omega)
   have cz':B5 (1≤((A9 x (-B1 (Bk x))).length:Int)∧((A9 x (-B1 (Bk x))).length:Int)≤64∧True)=true:=Aq.2 ⟨by omega,by omega,trivial⟩
   have p1:B5 (x.length≤1000∧-2300≤-B1 (Bk x)∧-B1 (Bk x)≤2300)=true:=Aq.2 (by omega)
   have p2:B5 ((A9 x (-B1 (Bk x))).length≤64)=true:=Aq.2 (by omega)
   have sp:∀ mu:Int,Af mu=true→Df mu (B1 (Bk x))=true:=fun mu h=>Ac.2 ⟨h,Aq.2 (by omega)⟩
   have ny:=J8 (A9 x (-B1 (Bk x)))
   cases hn:Eb (Qm x) with
   | true =>
     have hm:muI x=Bt (A9 x (-B1 (Bk x))):=by unfold muI; rw [A43 hn]
     obtain ⟨dv,k1,k2⟩:=key _ hm ny (Dz (F4 x)) rfl
     refine ⟨0,dv,[],?_,k2⟩
     rw [← k1]
     have eb:F4 x=Bg (Bt (A9 x (-B1 (Bk x)))) (B1 (Bk x)):=by unfold F4; rw [hm]
     rw [As.Bn.ev,ew,eb]
     simp only [c1,A4k,hx,A4g,h2,A5f,d1,ok1,h3,Rr,p1,oky,p2,A4m,Zh al,hn,sp _ ny,G8 ny,dz,cz',ay,iy,ny,Pw iy ny,Pw ny iy]
   | false =>
     have hm:muI x=Cz (Bt (A9 x (-B1 (Bk x)))):=by unfold muI; rw [A42 (by rw [hn]; decide)]
     have my:=Oq ny
     obtain ⟨dv,k1,k2⟩:=key _ hm my (Dz (F4 x)) rfl
     refine ⟨0,dv,[],?_,k2⟩
     rw [← k1]
     have eb:F4 x=Bg (Cz (Bt (A9 x (-B1 (Bk x))))) (B1 (Bk x)):=by unfold F4; rw [hm]
     rw [As.Bn.ev,ew,eb]
     simp only [c1,A4k,hx,A4g,h2,A5f,d1,ok1,h3,Rr,p1,oky,p2,A4m,Zh al,hn,A5z,sp _ my,G8 my,dz,cz',ay,iy,ny,my,Pw iy my,Pw my iy]
 ·rw [A42 h2]
  have h2:Dc x=false:=by simpa using h2
  refine ⟨0,.tup [.nil,.int .u64 0,.int .u64 0,.int .i64 4],[],?_,Wk.Hm (.cons Nq (.cons .int (.cons .int (.cons .int .nil))))⟩
  rw [As.Bn.ev,c1,A4k,hx,A4g,h2,A5z,A4g]
open EqHouse
def apD (i k c j a b:Nat):Bool:=decide (k≤b∧i≤a∧(b<c∨(b=c∧a<i+j)))
def apS (R C:Nat) (l:List Int) (i k:Nat) (v:List Int) (t:Int) (c j:Nat):List Int :=
 Cx R C fun a b=>if apD i k c j a b=true∧a<i+v.length then Rs (C:Int) l (i:Int) (k:Int) v t (a:Int) (b:Int) else Fp (C:Int) l (a:Int) (b:Int)
section
variable {R C i k:Nat} {l v:List Int} {t:Int}
theorem Am1 (c j:Nat):(apS R C l i k v t c j).length=R*C:=Cl _ _ _
theorem Ai7 (h:l.length=R*C):apS R C l i k v t k 0=l:=by
 unfold apS
 conv=>rhs; rw [← Ts h]
 refine Eu fun a b ha hb=>?_
 rw [A42]
 rintro ⟨h,_⟩
 have:=A46 h
 omega
theorem Ai8 (c:Nat):apS R C l i k v t c v.length=apS R C l i k v t (c+1) 0:=by
 unfold apS
 refine Eu fun a b ha hb=>?_
 have:(apD i k c v.length a b=true∧a<i+v.length)↔(apD i k (c+1) 0 a b=true∧a<i+v.length):=by
  unfold apD
  rw [A4n,A4n]
  omega
 by_cases h:apD i k c v.length a b=true∧a<i+v.length
 ·rw [A43 h,A43 (this.1 h)]
 ·rw [A42 h,A42 (fun hh=>h (this.2 hh))]
theorem Am2:apS R C l i k v t C 0=Gj R C l (i:Int) (k:Int) v t:=by
 unfold apS Gj
 refine Eu fun a b ha hb=>?_
 by_cases h:apD i k C 0 a b=true∧a<i+v.length
 ·rw [A43 h]
 ·rw [A42 h]
  unfold Rs
  rw [A42]
  intro hh
  refine h ⟨?_,by omega⟩
  unfold apD
  rw [A4n]; omega
theorem Am0 {c j:Nat} (hc:c<C) (hk:k≤c) (hj:j<v.length) {x:Int} (hx:x=Rs (C:Int) l (i:Int) (k:Int) v t ((i+j:Nat):Int) (c:Int)) :
 List.set (apS R C l i k v t c j) ((i+j)*C+c) x=apS R C l i k v t c (j+1):=by
 unfold apS
 rw [Qr hc]
 refine Eu fun a b ha hb=>?_
 by_cases h:a=i+j∧b=c
 ·obtain ⟨rfl,rfl⟩:=h
  rw [A43 ⟨rfl,rfl⟩,A43 ⟨by unfold apD; rw [A4n]; omega,by omega⟩,hx]
 ·rw [A42 h]
  have:(apD i k c j a b=true∧a<i+v.length)↔(apD i k c (j+1) a b=true∧a<i+v.length):=by
   unfold apD
   rw [A4n,A4n]
   omega
  by_cases h2:apD i k c j a b=true∧a<i+v.length
  ·rw [A43 h2,A43 (this.1 h2)]
  ·rw [A42 h2,A42 (fun hh=>h2 (this.2 hh))]
theorem Ai6 {c j:Nat} (hk:k≤c) (hj:j<v.length):Rs (C:Int) l (i:Int) (k:Int) v t ((i+j:Nat):Int) (c:Int) =
 E4 ((Ci (C:Int) l (c:Int) (i:Int) v.length).getD j 0) (Cc (Vb (C:Int) l (i:Int) v t (c:Int)) (v.getD j 0)):=by
 unfold Rs
 rw [A43 ⟨by omega,by omega,by omega⟩]
 have e1:(((i+j:Nat):Int)-(i:Int)).toNat=j:=by omega
 have e2:(Ci (C:Int) l (c:Int) (i:Int) v.length).getD j 0=Fp (C:Int) l ((i+j:Nat):Int) (c:Int):=by
  unfold Ci
  rw [A4q,A5x,List.getElem?_range hj]
  show Fp (C:Int) l ((i:Int)+(j:Int)) (c:Int)=_
  rw [← Int.natCast_add]
 rw [e1,e2]
theorem Ag5 {c b i:Int} {l:List Int} {m n:Nat} (h:m≤n):List.take m (Ci c l b i n)=Ci c l b i m:=by
 unfold Ci
 rw [← List.map_take,List.take_range,Nat.min_eq_left h]
theorem Ale (N M0:Nat) (r6:R≤6) (c6:C≤6) (al:Al l=true) (av:Al v=true) (hv:i+v.length≤R) {c:Nat} (hc:c<C) (hk:k≤c):∀ (cnt j F:Nat),j+cnt=v.length→cnt<F →
 As.Apply.L1 N M0 F (R:Int) (C:Int) l (i:Int) v t (j:Int) (apS R C l i k v t c j) (c:Int) (Vb (C:Int) l (i:Int) v t (c:Int)) (Ci (C:Int) l (c:Int) (i:Int) v.length) (v.length:Int) =
 As.Apply.L0 N M0 (R:Int) (C:Int) l (i:Int) v t ((c+1:Nat):Int) (apS R C l i k v t (c+1) 0):=by
 intro cnt
 induction cnt with
 | zero =>
   intro j F hj hF
   obtain ⟨F,rfl⟩:∃ G,F=G+1:=⟨F-1,by omega⟩
   obtain rfl:j=v.length:=by omega
   rw [As.Apply.Cd,Av,A4l (by omega),A4k,An (by omega) (by omega),Ai8]
   rfl
 | succ cnt ih =>
   intro j F hj hF
   obtain ⟨F,rfl⟩:∃ G,F=G+1:=⟨F-1,by omega⟩
   have hm:=J2 (a:=((i+j:Nat):Int)) (b:=(C:Int)) (by omega) (by omega) (by omega) (by omega)
   have hpl:=Il (show i+j<R by omega) hc
   have e1:Ab ((i:Int)+(j:Int))=((i+j:Nat):Int):=by rw [An (by omega) (by omega)]; omega
   have e2:Ab (((i+j:Nat):Int)*(C:Int))=(((i+j)*C:Nat):Int):=by rw [An (by omega) (by omega)]; exact (A41 _ _).symm
   have h36:=A5c r6 c6
   have e3:Ab ((((i+j)*C:Nat):Int)+(c:Int))=(((i+j)*C+c:Nat):Int):=by rw [An (by omega) (by omega)]; omega
   have hlen:=Am1 (R:=R) (C:=C) (l:=l) (i:=i) (k:=k) (v:=v) (t:=t) c j
   have sl:=Hn (C:Int) (c:Int) (i:Int) v.length l
   rw [As.Apply.Cd,Av,A4h (show (j:Int)<(v.length:Int) by omega),A4g,e1,e2,e3,sl,A4h (show (0:Int)≤(j:Int) by omega),A4h (show (j:Int)<(v.length:Int) by omega),A4m,A4g,A4i,A4i]
   have a1:=J0 av j
   have a2:=J0 (Kt (c:=(C:Int)) (b:=(c:Int)) (i:=(i:Int)) (n:=v.length) al) j
   have a3:Af (Vb (C:Int) l (i:Int) v t (c:Int))=true:=Ew _ _
   rw [A4g,a3,a1,A4m,A4g,a2,Ew,A4m,A4g,A4h (by omega),A4h (by omega),A4m,A4g,A4h (by omega),A4g,
    Am0 hc hk (by omega) (Ai6 hk (by omega)).symm,An (by omega) (by omega)]
   exact ih (j+1) F (by omega) (by omega)
theorem Alf (N:Nat) (r6:R≤6) (c6:C≤6) (hN:7<N) (hr:A0 (R:Int) (C:Int) l=true) (al:Al l=true) (av:Al v=true) (ht:Af t=true) (hv:i+v.length≤R):∀ (cnt c F:Nat),c+cnt=C→k≤c→cnt<F →
 As.Apply.L0 N F (R:Int) (C:Int) l (i:Int) v t (c:Int) (apS R C l i k v t c 0) =
 some (.tup [.agg [.int .i64 (R:Int),.int .i64 (C:Int),.ints (.own 114002 tB) .u64 (Gj R C l (i:Int) (k:Int) v t)],.int .i64 (0:Int)]):=by
 intro cnt
 induction cnt with
 | zero =>
   intro c F hc hk hF
   obtain ⟨F,rfl⟩:∃ G,F=G+1:=⟨F-1,by omega⟩
   obtain rfl:c=C:=by omega
   rw [As.Apply.Ar,Av,A4l (by omega),A4k,Am2]
 | succ cnt ih =>
   intro c F hc hk hF
   obtain ⟨F,rfl⟩:∃ G,F=G+1:=⟨F-1,by omega⟩
   have cp:Fv (R:Int) (C:Int) l (c:Int)=true:=Ac.2 ⟨hr,Aq.2 (by omega)⟩
   have e0:toNat ((R:Int)-(i:Int))=R-i:=by omega
   have st:=Ag5 (c:=(C:Int)) (b:=(c:Int)) (i:=(i:Int)) (l:=l) (m:=v.length) (n:=R-i) (by omega)
   have sl:=Hn (C:Int) (c:Int) (i:Int) v.length l
   have sl2:=Hn (C:Int) (c:Int) (i:Int) (R-i) l
   have sa:=Kt (c:=(C:Int)) (b:=(c:Int)) (i:=(i:Int)) (n:=v.length) al
   have ft:Mb v (Ci (C:Int) l (c:Int) (i:Int) v.length)=true:=Tv.2 ⟨by omega,by omega⟩
   rw [As.Apply.Ar,Av,A4h (by omega),A4g,cp,Aq.2 (show 0≤(i:Int)∧(i:Int)≤(R:Int) by omega),A4m,A4g,e0,A4i,st,sl2,sl,
    A4h (show (0:Int)≤(v.length:Int) by omega),A4h (show (v.length:Int)≤(v.length:Int) by omega),A4h (show (v.length:Int)≤((R-i:Nat):Int) by omega),A4m,A4m,A4g,ft,av,sa,A4m,A4m,A4g,ht,G6,A4m,A4g]
   have:=Ale (t:=t) N F r6 c6 al av hv (show c<C by omega) hk v.length 0 N (by omega) (by omega)
   exact this.trans (ih (c+1) F (by omega) (by omega) (by omega))
end
theorem As.Apply.known:As.Apply.Kn:=As.Apply.Ad (.cons Aa.Check.known (.cons Aa.D6.known (.cons Ag.H9.known (.cons Ag.Mul.known (.cons Ag.Sub.known .nil))))) fun r c l i k v t hp=>by
 obtain ⟨h1,ht⟩:=Ac.1 (show (((A0 r c l&&Ke r c i k v)&&(Al l&&Al v))&&Af t)=true from hp)
 obtain ⟨h2,h3⟩:=Ac.1 h1
 obtain ⟨hr,hb⟩:=Ac.1 h2
 obtain ⟨al,av⟩:=Ac.1 h3
 have hb:=A46 hb
 have hc:Lq r c l=0:=by unfold Lq; rw [A43 hr]
 have h36:=Tg hr
 obtain ⟨R,C,rfl,rfl,r6,c6,hl⟩:=Co hr
 obtain ⟨i,rfl⟩:∃ j:Nat,i=j:=⟨i.toNat,by omega⟩
 obtain ⟨k,rfl⟩:∃ j:Nat,k=j:=⟨k.toNat,by omega⟩
 refine ⟨8,As.Apply.out [.i (R:Int),.i (C:Int),.l l,.i (i:Int),.i (k:Int),.l v,.i t],[],?_,Wk.Hm (.cons (Wk.F7 (.cons .int (.cons .int (.cons (.keep _ _ _ _ List.not_mem_nil) .nil)))) (.cons .int .nil))⟩
 show _=some (DV.tup [.agg [.int .i64 (R:Int),.int .i64 (C:Int),.ints (.own 114002 tB) .u64 (Gj (toNat (R:Int)) (toNat (C:Int)) l (i:Int) (k:Int) v t)],.int .i64 0])
 have hlt:(((((Bb (i:Int) (0:Int))||(Bb (R:Int) (length v:Int)))||(Bb (Ab ((R:Int)-(length v:Int))) (i:Int)))||(Bb (k:Int) (0:Int)))||(Bb (C:Int) (k:Int)))=false:=by
  rw [Av,Av,Av,Av,Av,An (by omega) (by omega),A4l (by omega),A4l (by omega),A4l (by omega),A4l (by omega),A4l (by omega)]; rfl
 rw [As.Apply.ev,hc,show ((0:Int) !=(0:Int))=false from rfl,A4k,hlt,A4k,A4h (show 0+l.length≤Ha by unfold Ha; omega),A4g,List.nil_append,A4i,A4i]
 have:=Alf (R:=R) (C:=C) (i:=i) (k:=k) (l:=l) (v:=v) (t:=t) 8 r6 c6 (by omega) hr al av ht (by omega) (C-k) k 8 (by omega) (by omega) (by omega)
 rw [Ai7 hl] at this
 exact this
set_option maxRecDepth 100000
namespace EqSol
end EqSol
open EqSol
section
variable {n Q:Nat} {l m:List Int}
end
namespace EqFew
end EqFew
open EqSol EqFew
theorem Aiz {r c:Int} {l:List Int} (h:D5 r c l=0):A0 r c l=true∧Dc l=true:=by
 unfold D5 at h
 by_cases h1:A0 r c l=true
 ·rw [A43 h1] at h
  by_cases h2:Dc l=true
  ·exact ⟨h1,h2⟩
  ·rw [A42 h2] at h; exact absurd h (by decide)
 ·rw [A42 h1] at h; exact absurd h (by decide)
theorem Atz {r c:Int} {l:List Int} (h1:A0 r c l=true) (h2:Dc l=true):D5 r c l=0:=by unfold D5; rw [A43 h1,A43 h2]
theorem neI {x:Int} (h:x≠0):(x !=(0:Int))=true:=by simpa using h
theorem Pd {x:Int} (h:x=0):(x !=(0:Int))=false:=by rw [h]; rfl
theorem Aq5 {b:Nat} {n:Int} (h:b<2^64):(Fi b n).1<2^64:=by
 unfold Fi
 by_cases h4:Aj b=4
 ·rw [A43 h4]; exact (by decide:Oc<2^64)
 rw [A42 h4]
 by_cases h3:Aj b=3∨Aj b=0
 ·rw [A43 h3]; exact h
 rw [A42 h3]
 exact Vl _ _ _
theorem G8 {b n:Int} (h:Af b=true):Af (Bg b n)=true:=by
 obtain ⟨x,rfl,hx⟩:=Bw h
 exact Cm (Aq5 (by rw [A4i]; exact hx))
theorem Aby:∀ (l:List Int) (m:Nat),m<2^64→P2 l m<2^64
 | [],m,h=>h
 | x::l,m,h=>by
   unfold P2
   split
   ·exact (by decide:Oc<2^64)
   ·have h2:Gg x.toNat<2^63:=Aeh x.toNat
    exact Aby l _ (by omega)
theorem Rr (l:List Int):Af (Bk l)=true:=Cm (Aby l 0 (by decide))
theorem Rd (x:Int):Af (Iw x)=true:=Cm (Nat.lt_trans (Aeh x.toNat) (by decide))
theorem G6 (x y:List Int):Af (Hj x y)=true:=Cm (Afw x y 0 (by decide))
namespace EqQr
def qr.down.hint:Nat→Option Ba
 | 0=>some { keep:=[1,2,5,6,7],objs:=[(0,6,100006,.recs 161 2 []),(6,2,106002,.ints 43 .u64 [])],boxes:=[1,2,5] }
 | 2=>some { keep:=[1,2,5,6,7,8,9,12],objs:=[(6,2,106002,.ints 43 .u64 []),(0,6,100006,.recs 161 2 [])],boxes:=[1,2,5] }
 | _=>none
def qr.down.Bc:List (Nat × Entry):=[(163,As.Apply.spec),(200,As.Bn.spec),(68,Aa.D6.spec)]
def qr.down.E:Env:=Bi (Be qr.down.Bc) (fun n=>Nat.beq n 46) qr.down.hint (fun _=>none)
section
variable (N M0 M:Nat) (r c:Int) (l:List Int) (p7:Int) (p6:List (List DV)) (p2_2:List Int) (p12_1:Int) (p2_1:List Int) (p7_1:Int) (p8:List Int) (p9:Int) (p6_1:List (List DV))
def qr.down.L0:Option DV:=B8 qr.down.E N f162 (Ak f162) [1,1,1,0,1,0,0,1,0,0,1,1,1,1,0,1,0] [M0] M ⟨Ff 88 [(1,.ptr 1 0 0),(2,.ptr 2 0 0),(5,.ptr 5 0 0),(6,.oref 100006),(7,.int .i64 p7_1),(8,.ints .fresh .u64 p8),(9,.int .u64 p9),(12,.int .i64 p12_1)],[(1,false,.box [.int .i64 r,.int .i64 c,.ints .arg .u64 l]),(2,false,.box [.int .i64 0,.int .i64 0,.nil]),(5,false,.box [.int .i64 r,.int .i64 c,.oref 106002]),(106002,false,.ints 43 .u64 p2_1),(100006,false,.recs 161 2 p6_1)]⟩
def qr.down.L1:Option DV:=B8 qr.down.E N f162 (Ak f162) [1,1,1,0,1,0] [] M ⟨Ff 88 [(1,.ptr 1 0 0),(2,.ptr 2 0 0),(5,.ptr 5 0 0),(6,.oref 100006),(7,.int .i64 p7)],[(1,false,.box [.int .i64 r,.int .i64 c,.ints .arg .u64 l]),(2,false,.box [.int .i64 0,.int .i64 0,.nil]),(5,false,.box [.int .i64 r,.int .i64 c,.oref 106002]),(100006,false,.recs 161 2 p6),(106002,false,.ints 43 .u64 p2_2)]⟩
def qr.down.L2:Option DV:=B8 qr.down.E N f162 (Ak f162) [1,1,1,0,1,0] [] M ⟨Ff 88 [(1,.ptr 1 0 0),(2,.ptr 2 0 0),(5,.ptr 5 0 0),(6,.oref 100006),(7,.int .i64 0)],[(1,false,.box [.int .i64 r,.int .i64 c,.ints .arg .u64 l]),(2,false,.box [.int .i64 0,.int .i64 0,.nil]),(5,false,.box [.int .i64 r,.int .i64 c,.ints .arg .u64 l]),(100006,false,.recs 161 2 [])]⟩
theorem qr.down.Ar:qr.down.L0 N M0 (M+1) r c l p12_1 p2_1 p7_1 p8 p9 p6_1=bif (Bb p12_1 r) then bif ((decide (0≤(Ab ((Ab (p12_1*c))+p7_1))))&&(decide ((Ab ((Ab (p12_1*c))+p7_1))<(length p2_1:Int)))) then bif (decide ((toNat (Ab ((Ab (p12_1*c))+p7_1)))<(length p2_1))) then qr.down.L0 N M0 M r c l (Ab (p12_1+1)) (List.set p2_1 (toNat (Ab ((Ab (p12_1*c))+p7_1))) 0) p7_1 p8 p9 p6_1 else none else none else bif (decide ((length p6_1)+1≤Ah4)) then qr.down.L1 N M0 r c l (Ab (p7_1+1)) (p6_1++[[.ints .arg .u64 p8,.int .u64 p9]]) p2_1 else none:=by kernel_rfl
theorem qr.down.Cd:qr.down.L1 N (M+1) r c l p7 p6 p2_2=bif ((Bb p7 c)&&(Bb p7 (Ab (r-1)))) then bif (Fv r c p2_2 p7&&B5 (0≤p7∧p7≤r)) then bif (Bs (Ci c p2_2 p7 p7 (toNat (r-p7)))) then bif (((C1 (Ci c p2_2 p7 p7 (toNat (r-p7)))).2.2.2) !=(0:Int)) then some (.tup [.agg [.int .i64 0,.int .i64 0,.nil],.nil,.int .i64 2]) else bif (((A0 r c p2_2&&Ke r c p7 p7 ((C1 (Ci c p2_2 p7 p7 (toNat (r-p7)))).1))&&(Al p2_2&&Al ((C1 (Ci c p2_2 p7 p7 (toNat (r-p7)))).1)))&&Af ((C1 (Ci c p2_2 p7 p7 (toNat (r-p7)))).2.1)) then bif ((decide (0≤(Ab ((Ab (p7*c))+p7))))&&(decide ((Ab ((Ab (p7*c))+p7))<(length (Gj (toNat r) (toNat c) p2_2 p7 p7 ((C1 (Ci c p2_2 p7 p7 (toNat (r-p7)))).1) ((C1 (Ci c p2_2 p7 p7 (toNat (r-p7)))).2.1)):Int)))) then bif (decide ((toNat (Ab ((Ab (p7*c))+p7)))<(length (Gj (toNat r) (toNat c) p2_2 p7 p7 ((C1 (Ci c p2_2 p7 p7 (toNat (r-p7)))).1) ((C1 (Ci c p2_2 p7 p7 (toNat (r-p7)))).2.1))))) then qr.down.L0 N M N r c l (Ab (p7+1)) (List.set (Gj (toNat r) (toNat c) p2_2 p7 p7 ((C1 (Ci c p2_2 p7 p7 (toNat (r-p7)))).1) ((C1 (Ci c p2_2 p7 p7 (toNat (r-p7)))).2.1)) (toNat (Ab ((Ab (p7*c))+p7))) ((C1 (Ci c p2_2 p7 p7 (toNat (r-p7)))).2.2.1)) p7 ((C1 (Ci c p2_2 p7 p7 (toNat (r-p7)))).1) ((C1 (Ci c p2_2 p7 p7 (toNat (r-p7)))).2.1) p6 else none else none else none else none else none else some (.tup [.agg [.int .i64 r,.int .i64 c,.ints (.own 106002 43) .u64 p2_2],.recs (.own 100006 161) 2 p6,.int .i64 0]) :=
 Eq.trans (by kernel_rfl)
 (Ax (R6 (Bb p7 c)) (Ax (R6 (Bb p7 c)) (Ax (No (Bb p7 c)) (Ax (No (Bb p7 c)) (Ax (Ang (Bb p7 c)) (Ax (W5 (Bb p7 c)) (Cw (tt1 _ _) rfl rfl)))))))
theorem qr.down.Lv:qr.down.L2 N (M+1) r c l=bif ((Bb 0 c)&&(Bb 0 (Ab (r-1)))) then bif (Fv r c l 0&&B5 (0≤(0:Int)∧(0:Int)≤r)) then bif (Bs (Ci c l 0 0 (toNat (r-0)))) then bif (((C1 (Ci c l 0 0 (toNat (r-0)))).2.2.2) !=(0:Int)) then some (.tup [.agg [.int .i64 0,.int .i64 0,.nil],.nil,.int .i64 2]) else bif (((A0 r c l&&Ke r c 0 0 ((C1 (Ci c l 0 0 (toNat (r-0)))).1))&&(Al l&&Al ((C1 (Ci c l 0 0 (toNat (r-0)))).1)))&&Af ((C1 (Ci c l 0 0 (toNat (r-0)))).2.1)) then bif ((decide (0≤(Ab ((Ab ((0:Int)*c))+0))))&&(decide ((Ab ((Ab ((0:Int)*c))+0))<(length (Gj (toNat r) (toNat c) l 0 0 ((C1 (Ci c l 0 0 (toNat (r-0)))).1) ((C1 (Ci c l 0 0 (toNat (r-0)))).2.1)):Int)))) then bif (decide ((toNat (Ab ((Ab ((0:Int)*c))+0)))<(length (Gj (toNat r) (toNat c) l 0 0 ((C1 (Ci c l 0 0 (toNat (r-0)))).1) ((C1 (Ci c l 0 0 (toNat (r-0)))).2.1))))) then qr.down.L0 N M N r c l 1 (List.set (Gj (toNat r) (toNat c) l 0 0 ((C1 (Ci c l 0 0 (toNat (r-0)))).1) ((C1 (Ci c l 0 0 (toNat (r-0)))).2.1)) (toNat (Ab ((Ab ((0:Int)*c))+0))) ((C1 (Ci c l 0 0 (toNat (r-0)))).2.2.1)) 0 ((C1 (Ci c l 0 0 (toNat (r-0)))).1) ((C1 (Ci c l 0 0 (toNat (r-0)))).2.1) [] else none else none else none else none else none else some (.tup [.agg [.int .i64 r,.int .i64 c,.ints .arg .u64 l],.recs (.own 100006 161) 2 [],.int .i64 0]) :=
 Eq.trans (by kernel_rfl)
 (Ax (R6 (Bb 0 c)) (Ax (R6 (Bb 0 c)) (Ax (No (Bb 0 c)) (Ax (No (Bb 0 c)) (Ax (Ang (Bb 0 c)) (Ax (W5 (Bb 0 c)) (Cw (tt1 _ _) rfl rfl)))))))
theorem qr.down.ev:B0 qr.down.E N f162 (Ak f162) [.agg [.int .i64 r,.int .i64 c,.ints .arg .u64 l]] =
 qr.down.L2 N N r c l:=by kernel_rfl
end
abbrev _root_.Go.Proofs.S1.qr.down.Kn:=A8 prog 162 qr.down.spec
theorem qr.down.Ad (hk:A2 prog qr.down.Bc) (h:Hyp qr.down.E f162 qr.down.ts qr.down.pre qr.down.out):qr.down.Kn :=
 Am (A5 hk _ _ _) func162 (by kernel_rfl) (by kernel_rfl) h
def qr.B7.hint:Nat→Option Ba
 | 0=>some { keep:=[2,3,5,6],objs:=[],boxes:=[2,3] }
 | _=>none
def qr.B7.Bc:List (Nat × Entry):=[(69,Dv.Check.spec),(163,As.Apply.spec),(126,Aa.E9.spec),(162,qr.down.spec),(66,Ag.Finite.spec)]
def qr.B7.E:Env:=X0 (Be qr.B7.Bc) (fun _=>false) qr.B7.hint (fun _=>none) (Aja [(22,[.s .u64]),(43,[.i .u64])])
section
variable (N M:Nat) (r c:Int) (l:List Int) (p6:Int) (p2:List Int)
def qr.B7.L0:Option DV:=B8 qr.B7.E N f120 (Ak f120) [1,0,1,1,1,1,1,1,0,0] [] M ⟨Ff 81 [(2,.ptr 2 0 0),(3,.ptr 3 0 0),(5,.recs .fresh 2 (Ql r c ([]++l))),(6,.int .i64 p6)],[(2,false,.box [.int .i64 ((Pb r).1),.int .i64 ((Pb r).2.1),.ints .fresh .u64 p2]),(3,false,.box [.int .i64 ((Hv r c ([]++l)).1),.int .i64 ((Hv r c ([]++l)).2.1),.ints .arg .u64 ((Hv r c ([]++l)).2.2.1)])]⟩
theorem qr.B7.Ar:qr.B7.L0 N (M+1) r c l p6 p2=bif (Bb p6 0) then bif (Bs p2) then bif ((!(Dc p2))||(Bs ((Hv r c ([]++l)).2.2.1))) then bif ((!(Dc p2))||(!(Dc ((Hv r c ([]++l)).2.2.1)))) then some (.tup [.agg [.int .i64 0,.int .i64 0,.nil],.agg [.int .i64 0,.int .i64 0,.nil],.int .i64 2]) else some (.tup [.agg [.int .i64 ((Pb r).1),.int .i64 ((Pb r).2.1),.ints .fresh .u64 p2],.agg [.int .i64 ((Hv r c ([]++l)).1),.int .i64 ((Hv r c ([]++l)).2.1),.ints .arg .u64 ((Hv r c ([]++l)).2.2.1)],.int .i64 0]) else none else none else bif ((decide (0≤p6))&&(decide (p6<(length (Ql r c ([]++l)):Int)))) then bif (isC (.s .u64) (getD (getD (Ql r c ([]++l)) (toNat p6) []) 0 .undef)) then bif ((decide (0≤p6))&&(decide (p6<(length (Ql r c ([]++l)):Int)))) then bif (isC (.i .u64) (getD (getD (Ql r c ([]++l)) (toNat p6) []) 1 .undef)) then bif (((A0 ((Pb r).1) ((Pb r).2.1) p2&&Ke ((Pb r).1) ((Pb r).2.1) p6 0 (Ss (getD (getD (Ql r c ([]++l)) (toNat p6) []) 0 .undef)))&&(Al p2&&Al (Ss (getD (getD (Ql r c ([]++l)) (toNat p6) []) 0 .undef))))&&Af (Ait (getD (getD (Ql r c ([]++l)) (toNat p6) []) 1 .undef))) then qr.B7.L0 N M r c l (Ab (p6-1)) (Gj (toNat ((Pb r).1)) (toNat ((Pb r).2.1)) p2 p6 0 (Ss (getD (getD (Ql r c ([]++l)) (toNat p6) []) 0 .undef)) (Ait (getD (getD (Ql r c ([]++l)) (toNat p6) []) 1 .undef))) else none else none else none else none else none :=
 Eq.trans (by kernel_rfl)
 (E1 (E1 (Ax (W7 (Dc p2)) (Ax (R3 (Dc p2)) (Cw (Ajt _ _) (Ax (R3 (Dc p2)) (Ax (Zu (Dc p2)) (Cw (Aqo _ _) rfl rfl))) rfl))) rfl) (Cw (J1 _ _) (Cw (Cy _) (Cw (J1 _ _) (Cw (Cy _) (Cw (Cy _) rfl rfl) rfl) rfl) rfl) rfl))
theorem qr.B7.ev:B0 qr.B7.E N f120 (Ak f120) [.agg [.int .i64 r,.int .i64 c,.ints .arg .u64 l]]=bif (Al l) then bif ((D5 r c l) !=(0:Int)) then some (.tup [.agg [.int .i64 0,.int .i64 0,.nil],.agg [.int .i64 0,.int .i64 0,.nil],.int .i64 (D5 r c l)]) else bif (decide (0+(length l)≤Ha)) then bif ((A0 r c ([]++l)&&Dc ([]++l))&&Al ([]++l)) then bif (((Hv r c ([]++l)).2.2.2) !=(0:Int)) then some (.tup [.agg [.int .i64 0,.int .i64 0,.nil],.agg [.int .i64 0,.int .i64 0,.nil],.int .i64 ((Hv r c ([]++l)).2.2.2)]) else qr.B7.L0 N N r c l (Ab ((length (Ql r c ([]++l)):Int)-1)) ((Pb r).2.2.1) else none else none else none :=
 Eq.trans (by kernel_rfl)
 (E1 (E1 rfl (Cw (Cy _) (Cw (Cy _) rfl rfl) rfl)) rfl)
end
abbrev _root_.Go.Proofs.S1.qr.B7.Kn:=A8 prog 120 qr.B7.spec
theorem qr.B7.Ad (hk:A2 prog qr.B7.Bc) (h:Hyp qr.B7.E f120 qr.B7.ts qr.B7.pre qr.B7.out):qr.B7.Kn :=
 Am (Zl hk _ _ _ _) func120 (by kernel_rfl) (by kernel_rfl) h
def qr.Gu.Bc:List (Nat × Entry):=[(63,Aa.Part.spec),(120,qr.B7.spec)]
def qr.Gu.E:Env:=Bi (Be qr.Gu.Bc) (fun _=>false) (fun _=>none) (fun _=>none)
theorem qr.Gu.ev (N:Nat) (r c:Int) (l:List Int):B0 qr.Gu.E N f62 (Ak f62) [.agg [.int .i64 r,.int .i64 c,.ints .arg .u64 l]]=bif (Al l) then bif ((Fa r c l) !=(0:Int)) then some (.tup [.agg [.int .i64 0,.int .i64 0,.nil],.agg [.int .i64 0,.int .i64 0,.nil],.int .i64 (Fa r c l)]) else some (.tup [.agg [.int .i64 ((Cv ((qX r c l).1) ((qX r c l).2.1) ((qX r c l).2.2.1) 0 0 r (min r c)).1),.int .i64 ((Cv ((qX r c l).1) ((qX r c l).2.1) ((qX r c l).2.2.1) 0 0 r (min r c)).2.1),.ints .fresh .u64 ((Cv ((qX r c l).1) ((qX r c l).2.1) ((qX r c l).2.2.1) 0 0 r (min r c)).2.2.1)],.agg [.int .i64 ((Cv ((rX r c l).1) ((rX r c l).2.1) ((rX r c l).2.2.1) 0 0 (min r c) c).1),.int .i64 ((Cv ((rX r c l).1) ((rX r c l).2.1) ((rX r c l).2.2.1) 0 0 (min r c) c).2.1),.ints .fresh .u64 ((Cv ((rX r c l).1) ((rX r c l).2.1) ((rX r c l).2.2.1) 0 0 (min r c) c).2.2.1)],.int .i64 0]) else none:=by kernel_rfl
abbrev _root_.Go.Proofs.S1.qr.Gu.Kn:=A8 prog 62 qr.Gu.spec
theorem qr.Gu.Ad (hk:A2 prog qr.Gu.Bc) (h:Hyp qr.Gu.E f62 qr.Gu.ts qr.Gu.pre qr.Gu.out):qr.Gu.Kn :=
 Am (A5 hk _ _ _) func62 (by kernel_rfl) (by kernel_rfl) h
end EqQr
open EqQr
def clS (R C:Nat) (l:List Int) (j:Nat) (x:Int) (i:Nat):List Int:=Cx R C fun a b=>if b=j∧j≤a∧a<i then (if a=j then x else 0) else Fp (C:Int) l (a:Int) (b:Int)
section
variable {R C j:Nat} {l:List Int} {x:Int}
theorem Amw (i:Nat):(clS R C l j x i).length=R*C:=Cl _ _ _
theorem X5 (hl:l.length=R*C) (hj:j<C):List.set l (j*C+j) x=clS R C l j x (j+1):=by
 unfold clS
 conv=>lhs; rw [← Ts hl]
 rw [Qr hj]
 refine Eu fun a b ha hb=>?_
 by_cases h:a=j∧b=j
 ·rw [A43 h,A43 (by omega),A43 h.1]
 ·rw [A42 h,A42 (by omega)]
theorem Amv {i:Nat} (hj:j<C) (hi:j<i):List.set (clS R C l j x i) (i*C+j) 0=clS R C l j x (i+1):=by
 unfold clS
 rw [Qr hj]
 refine Eu fun a b ha hb=>?_
 by_cases h:a=i∧b=j
 ·rw [A43 h,A43 (by omega),A42 (by omega)]
 ·rw [A42 h]
  by_cases h2:b=j∧j≤a∧a<i
  ·rw [A43 h2,A43 (show b=j∧j≤a∧a<i+1 by omega)]
  ·rw [A42 h2,A42 (by omega)]
theorem Amx:clS R C l j x R=Oz R C l j x:=by
 unfold clS Oz
 refine Eu fun a b ha hb=>?_
 by_cases h:b=j∧j≤a
 ·rw [A43 h,A43 (by omega)]
 ·rw [A42 h,A42 (by omega)]
end
theorem Aau {C i j:Nat} (hi:i≤6) (hC:C≤6) (hj:j≤6):Ab (Ab ((i:Int)*(C:Int))+(j:Int))=((i*C+j:Nat):Int):=by
 have h36:=A5c hi hC
 rw [An (x:=(i:Int)*(C:Int)) (by rw [← A41]; omega) (by rw [← A41]; omega),← A41,An (by omega) (by omega)]
 omega
section
variable {R C:Nat}
theorem Abq (N M0:Nat) (l0:List Int) (r6:R≤6) (c6:C≤6) {j:Nat} (hj:j<C) (l:List Int) (x:Int) (v:List Int) (t:Int) (ms:List (List DV)) (hms:ms.length≤100):∀ (cnt i F:Nat),i+cnt=R→j<i→cnt<F →
 qr.down.L0 N M0 F (R:Int) (C:Int) l0 (i:Int) (clS R C l j x i) (j:Int) v t ms=qr.down.L1 N M0 (R:Int) (C:Int) l0 ((j+1:Nat):Int) (ms++[[.ints .arg .u64 v,.int .u64 t]]) (Oz R C l j x):=by
 intro cnt
 induction cnt with
 | zero =>
   intro i F hi hji hF
   obtain ⟨F,rfl⟩:∃ G,F=G+1:=⟨F-1,by omega⟩
   obtain rfl:i=R:=by omega
   rw [qr.down.Ar,Av,A4l (by omega),A4k,A4h (by unfold Ah4; omega),A4g,An (by omega) (by omega),Amx]
   rfl
 | succ cnt ih =>
   intro i F hi hji hF
   obtain ⟨F,rfl⟩:∃ G,F=G+1:=⟨F-1,by omega⟩
   have hlen:=Amw (R:=R) (C:=C) (l:=l) (j:=j) (x:=x) i
   have hp:=Il (show i<R by omega) hj
   rw [qr.down.Ar,Av,A4h (by omega),A4g,Aau (by omega) c6 (by omega),A4h (by omega),A4h (by omega),A4m,A4g,A4i,A4h (by omega),A4g,Amv hj hji,An (by omega) (by omega)]
   exact ih (i+1) F (by omega) (by omega) (by omega)
def Uj (r c:Nat) (ms:List (List DV)):Option (List Int × List (List Int × Int))→DV
 | none=>.tup [.agg [.int .i64 0,.int .i64 0,.nil],.nil,.int .i64 2]
 | some x=>.tup [.agg [.int .i64 (r:Int),.int .i64 (c:Int),.ints (.own 106002 tB) .u64 x.1],.recs (.own 100006 tMR) 2 (ms++Aav x.2),.int .i64 0]
theorem Apj (N:Nat) (hN:7<N) (l0:List Int) (r6:R≤6) (c6:C≤6):∀ (cnt j F:Nat) (l:List Int) (ms:List (List DV)),j+cnt=Jj R C→cnt<F→l.length=R*C→Al l=true→ms.length=j →
 qr.down.L1 N F (R:Int) (C:Int) l0 (j:Int) ms l=some (Uj R C ms (Ox R C cnt j l)):=by
 intro cnt
 induction cnt with
 | zero =>
   intro j F l ms hj hF hl al hms
   obtain ⟨F,rfl⟩:∃ G,F=G+1:=⟨F-1,by omega⟩
   unfold Jj at hj
   have hlt:(Bb (j:Int) (C:Int)&&Bb (j:Int) (Ab ((R:Int)-1)))=false:=by
    rw [Av,Av,An (by omega) (by omega),Bool.and_eq_false_iff,A4z,A4z]; omega
   rw [qr.down.Cd,hlt,A4k]
   simp [Ox,Uj,Aav]
 | succ cnt ih =>
   intro j F l ms hj hF hl al hms
   obtain ⟨F,rfl⟩:∃ G,F=G+1:=⟨F-1,by omega⟩
   have hj0:=hj
   unfold Jj at hj
   have hr:=Em r6 c6 hl
   have hlt:(Bb (j:Int) (C:Int)&&Bb (j:Int) (Ab ((R:Int)-1)))=true:=by
    rw [Av,Av,An (by omega) (by omega),A4h (by omega),A4h (by omega)]; rfl
   have cp:Fv (R:Int) (C:Int) l (j:Int)=true:=Ac.2 ⟨hr,Aq.2 (by omega)⟩
   have ec:Ci (C:Int) l (j:Int) (j:Int) (toNat ((R:Int)-(j:Int)))=F3 R C l j:=by unfold F3; rw [show toNat ((R:Int)-(j:Int))=R-j by omega]
   have ca:Al (F3 R C l j)=true:=Kt al
   have cl:(F3 R C l j).length=R-j:=Hn _ _ _ _ _
   rw [qr.down.Cd,hlt,A4g,cp,Aq.2 (show 0≤(j:Int)∧(j:Int)≤(R:Int) by omega),A4m,A4g,ec,Fu ca (by omega),A4g]
   unfold Ox
   by_cases he:(C1 (F3 R C l j)).2.2.2=0
   ·have hml:=Wb he
    have hma:=Wc ca
    have hap:Ke (R:Int) (C:Int) (j:Int) (j:Int) (C1 (F3 R C l j)).1=true:=A4h (by omega)
    have hp:=Il (show j<R by omega) (show j<C by omega)
    have hlen:=Mm R C l (j:Int) (j:Int) (C1 (F3 R C l j)).1 (C1 (F3 R C l j)).2.1
    have hg:=Abq N F l0 r6 c6 (show j<C by omega) (Gj R C l (j:Int) (j:Int) (C1 (F3 R C l j)).1 (C1 (F3 R C l j)).2.1) (C1 (F3 R C l j)).2.2.1 (C1 (F3 R C l j)).1 (C1 (F3 R C l j)).2.1 ms (by omega) (R-(j+1)) (j+1) N (by omega) (by omega) (by omega)
    have hn:=ih (j+1) F (Aaw R C l j) (ms++[[.ints .arg .u64 (C1 (F3 R C l j)).1,.int .u64 (C1 (F3 R C l j)).2.1]]) (by omega) (by omega) (Pn _ _ _ _) (Zf al j) (by rw [A48,hms]; rfl)
    rw [Pd he,A4k,hr,hap,al,hma.1,hma.2.1,A4m,A4m,A4m,A4g,Aau (by omega) c6 (by omega),A4i,A4i,A4i,A4h (by omega),A4h (by omega),A4m,A4g,A4h (by omega),A4g,
     X5 hlen (by omega),An (by omega) (by omega),A43 he]
    refine (hg.trans hn).trans ?_
    show some (Uj R C _ (Ox R C cnt (j+1) (Aaw R C l j)))=some (Uj R C ms _)
    cases Ox R C cnt (j+1) (Aaw R C l j) with
    | none=>rfl
    | some x=>simp [Uj,Aav]
   ·rw [neI he,A4g,A42 he]; rfl
theorem Ak3 (N:Nat) (hN:7<N) {l:List Int} (r6:R≤6) (c6:C≤6) (hl:l.length=R*C) (al:Al l=true) (h0:Jj R C≠0) :
 qr.down.L2 N N (R:Int) (C:Int) l=some (Uj R C [] (Ln R C l)):=by
 obtain ⟨cnt,hc⟩:∃ cnt,Jj R C=cnt+1:=⟨Jj R C-1,by omega⟩
 obtain ⟨F,rfl⟩:∃ G,N=G+1:=⟨N-1,by omega⟩
 have hj:=hc
 unfold Jj at hj
 have hr:=Em r6 c6 hl
 have hlt:(Bb (0:Int) (C:Int)&&Bb (0:Int) (Ab ((R:Int)-1)))=true:=by
  rw [Av,Av,An (by omega) (by omega),A4h (by omega),A4h (by omega)]; rfl
 have cp:Fv (R:Int) (C:Int) l (0:Int)=true:=Ac.2 ⟨hr,Aq.2 (by omega)⟩
 have ec:Ci (C:Int) l (0:Int) (0:Int) (toNat ((R:Int)-(0:Int)))=F3 R C l 0:=by unfold F3; rw [show toNat ((R:Int)-(0:Int))=R-0 by omega]; rfl
 have ca:Al (F3 R C l 0)=true:=Kt al
 have cl:(F3 R C l 0).length=R-0:=Hn _ _ _ _ _
 unfold Ln
 rw [hc,qr.down.Lv,hlt,A4g,cp,Aq.2 (show 0≤(0:Int)∧(0:Int)≤(R:Int) by omega),A4m,A4g,ec,Fu ca (by omega),A4g]
 unfold Ox
 by_cases he:(C1 (F3 R C l 0)).2.2.2=0
 ·have hml:=Wb he
  have hma:=Wc ca
  have hap:Ke (R:Int) (C:Int) (0:Int) (0:Int) (C1 (F3 R C l 0)).1=true:=A4h (by omega)
  have hp:=Il (show 0<R by omega) (show 0<C by omega)
  have hlen:=Mm R C l (0:Int) (0:Int) (C1 (F3 R C l 0)).1 (C1 (F3 R C l 0)).2.1
  have hg:=Abq (F+1) F l r6 c6 (show 0<C by omega) (Gj R C l (0:Int) (0:Int) (C1 (F3 R C l 0)).1 (C1 (F3 R C l 0)).2.1) (C1 (F3 R C l 0)).2.2.1 (C1 (F3 R C l 0)).1 (C1 (F3 R C l 0)).2.1 [] (Nat.zero_le _) (R-1) 1 (F+1) (by omega) (by omega) (by omega)
  have hn:=Apj (R:=R) (C:=C) (F+1) hN l r6 c6 cnt 1 F (Aaw R C l 0) [[.ints .arg .u64 (C1 (F3 R C l 0)).1,.int .u64 (C1 (F3 R C l 0)).2.1]] (by omega) (by unfold Jj at hc; omega) (Pn _ _ _ _) (Zf al 0) rfl
  have mc:=Aau (i:=0) (C:=C) (j:=0) (by omega) c6 (by omega)
  have mc:Ab (Ab ((0:Int)*(C:Int))+(0:Int))=((0*C+0:Nat):Int):=mc
  rw [Pd he,A4k,hr,hap,al,hma.1,hma.2.1,A4m,A4m,A4m,A4g,mc,A4i,A4i,A4i,A4h (by omega),A4h (by omega),A4m,A4g,A4h (by omega),A4g,
   X5 hlen (by omega),A43 he]
  refine (hg.trans hn).trans ?_
  show some (Uj R C _ (Ox R C cnt 1 (Aaw R C l 0)))=some (Uj R C [] _)
  cases Ox R C cnt (0+1) (Aaw R C l 0) with
  | none=>rfl
  | some x=>simp [Uj,Aav]
 ·rw [neI he,A4g,A42 he]; rfl
end
theorem qr.down.known:qr.down.Kn:=qr.down.Ad (.cons As.Apply.known (.cons As.Bn.known (.cons Aa.D6.known .nil))) fun r c l hp=>by
 obtain ⟨h1,al⟩:=Ac.1 (show ((A0 r c l&&Dc l)&&Al l)=true from hp)
 obtain ⟨hr,hf⟩:=Ac.1 h1
 obtain ⟨R,C,rfl,rfl,r6,c6,hl⟩:=Co hr
 by_cases h0:Jj R C=0
 ·have hx:Ln R C l=some (l,[]):=by unfold Ln; rw [h0]; rfl
  refine ⟨8,.tup [.agg [.int .i64 (R:Int),.int .i64 (C:Int),.ints .arg .u64 l],.recs (.own 100006 tMR) 2 [],.int .i64 0],[100006],?_,?_⟩
  ·unfold Jj at h0
   have hlt:(Bb (0:Int) (C:Int)&&Bb (0:Int) (Ab ((R:Int)-1)))=false:=by
    rw [Av,Av,An (by omega) (by omega),Bool.and_eq_false_iff,A4z,A4z]; omega
   rw [qr.down.ev,show (8:Nat)=7+1 from rfl,qr.down.Lv,hlt,A4k]
  ·show Wk _ _ (DV.tup [.agg [.int .i64 (Hv (R:Int) (C:Int) l).1,.int .i64 (Hv (R:Int) (C:Int) l).2.1,.ints .arg .u64 (Hv (R:Int) (C:Int) l).2.2.1],.recs .fresh 2 (Ql (R:Int) (C:Int) l),.int .i64 (Hv (R:Int) (C:Int) l).2.2.2])
   unfold Hv Ql Na
   rw [A4i,A4i,hx]
   exact Wk.Hm (.cons (Wk.F7 (.cons .int (.cons .int (.cons .N1 .nil)))) (.cons (.dropR _ _ _ _ (List.mem_singleton.2 rfl)) (.cons .int .nil)))
 ·refine ⟨8,Uj R C [] (Ln R C l),[106002,100006],?_,?_⟩
  ·rw [qr.down.ev]
   exact Ak3 8 (by omega) r6 c6 hl al h0
  ·show Wk _ _ (DV.tup [.agg [.int .i64 (Hv (R:Int) (C:Int) l).1,.int .i64 (Hv (R:Int) (C:Int) l).2.1,.ints .arg .u64 (Hv (R:Int) (C:Int) l).2.2.1],.recs .fresh 2 (Ql (R:Int) (C:Int) l),.int .i64 (Hv (R:Int) (C:Int) l).2.2.2])
   unfold Hv Ql Na
   rw [A4i,A4i]
   cases Ln R C l with
   | none=>exact Wk.Hm (.cons (Wk.F7 (.cons .int (.cons .int (.cons Nq .nil)))) (.cons (.nilR _ _) (.cons .int .nil)))
   | some x=>exact Wk.Hm (.cons (Wk.F7 (.cons .int (.cons .int (.cons (.dropA _ _ _ _ A5v) .nil)))) (.cons (.dropR _ _ _ _ (A5l _ A5v)) (.cons .int .nil)))
open EqQr
def Adh (e:Int):DV:=.tup [.agg [.int .i64 0,.int .i64 0,.nil],.agg [.int .i64 0,.int .i64 0,.nil],.int .i64 e]
theorem Xs {r:Nat}:∀ {j:Nat} {ms:List (List Int × Int)},Adj r j ms→∀ i:Nat,i<ms.length→Al (ms.getD i ([],0)).1=true∧Af (ms.getD i ([],0)).2=true∧(ms.getD i ([],0)).1.length+(j+i)=r
 | _,[],_,i,h=>absurd h (Nat.not_lt_zero _)
 | j,m::ms,hm,0,_=>hm.1
 | j,m::ms,hm,i+1,h=>by
   have:=Xs hm.2 i (by simpa using h)
   rw [show j+(i+1)=j+1+i by omega]
   exact this
theorem Ase {ms:List (List Int × Int)} {i:Nat} (h:i<ms.length):getD (Aav ms) i []=[.ints .arg .u64 (ms.getD i ([],0)).1,.int .u64 (ms.getD i ([],0)).2]:=by
 unfold Aav
 rw [A4q,A5x,A4x h,A4q,A4x h]; rfl
theorem Ahq (ms:List (List Int × Int)):(Aav ms).length=ms.length:=by unfold Aav; rw [A5m]
theorem Aea {n i:Nat} {ms:List (List Int × Int)} (h:i<ms.length) (q:List Int):I3 n i (ms.drop i) q=Gj n n (I3 n (i+1) (ms.drop (i+1)) q) (i:Int) 0 (ms.getD i ([],0)).1 (ms.getD i ([],0)).2:=by
 rw [List.drop_eq_getElem_cons h,I3,A4q,A4x h]; rfl
theorem Afu {R:Nat} (h:R≤6):Pb (R:Int)=((R:Int),(R:Int),Ic R,0):=by
 unfold Pb Ic
 rw [A43 (Lf h),A4i]
theorem Aq2 {n:Nat} (h:n≤6):n*n≤36:=A5c h h
theorem Aio (N:Nat) {R C:Nat} {l:List Int} (r6:R≤6) {x:List Int × List (List Int × Int)} (hx:Ln R C l=some x) (hm:Adj R 0 x.2) (hxr:Al x.1=true) (hxl:x.1.length≤36):∀ (j F:Nat),j≤x.2.length→j<F →
 qr.B7.L0 N F (R:Int) (C:Int) l ((j:Int)-1) (I3 R j (x.2.drop j) (Ic R)) =
 bif Ow R C l then some (.tup [.agg [.int .i64 (R:Int),.int .i64 (R:Int),.ints .fresh .u64 (Pa R C l)],.agg [.int .i64 (R:Int),.int .i64 (C:Int),.ints .arg .u64 (Na R C l)],.int .i64 0])
 else some (Adh 2):=by
 have hq:Pa R C l=I3 R 0 x.2 (Ic R):=by unfold Pa; rw [hx]
 have hr:Na R C l=x.1:=by unfold Na; rw [hx]
 have hd:Hv (R:Int) (C:Int) ([]++l)=((R:Int),(C:Int),x.1,0):=by
  unfold Hv
  rw [List.nil_append,A4i,A4i,hx,hr]; rfl
 have hmd:Ql (R:Int) (C:Int) ([]++l)=Aav x.2:=by
  unfold Ql
  rw [List.nil_append,A4i,A4i,hx]
 have h36:=Aq2 r6
 intro j
 induction j with
 | zero =>
   intro F _ hF
   obtain ⟨F,rfl⟩:∃ G,F=G+1:=⟨F-1,by omega⟩
   have hb:=Tw R x.2 0 (Ic R) (Ws R) (by unfold Ic; exact Cl _ _ _)
   have ok1:Bs (I3 R 0 x.2 (Ic R))=true:=Fu hb.1 (by omega)
   have ok2:Bs x.1=true:=Fu hxr (by omega)
   have hfo:Ow R C l=(Dc (I3 R 0 x.2 (Ic R))&&Dc x.1):=by unfold Ow; rw [hx,hq,hr]; rfl
   rw [qr.B7.Ar,Av,A4h (by omega),A4g,List.drop_zero,ok1,A4g,hd,Afu r6,ok2,A5s,A4g,hfo,hq,hr]
   cases Dc (I3 R 0 x.2 (Ic R)) with
   | false=>rfl
   | true=>cases Dc x.1<;>rfl
 | succ j ih =>
   intro F hj hF
   obtain ⟨F,rfl⟩:∃ G,F=G+1:=⟨F-1,by omega⟩
   have ej:(((j+1:Nat):Int))-1=(j:Int):=by omega
   have hg:=Xs hm j (by omega)
   have hb:=Tw R (x.2.drop (j+1)) (j+1) (Ic R) (Ws R) (by unfold Ic; exact Cl _ _ _)
   have hr1:=Em r6 r6 hb.2
   have hap:Ke (R:Int) (R:Int) (j:Int) 0 (x.2.getD j ([],0)).1=true:=A4h (by omega)
   have hmg:=Ase (ms:=x.2) (i:=j) (by omega)
   rw [qr.B7.Ar,ej,Av,A4l (show ¬ (j:Int)<0 by omega),A4k,hmd,Ahq,A4h (show (0:Int)≤(j:Int) by omega),A4h (show (j:Int)<(x.2.length:Int) by omega),A4m,A4g,A4i,hmg,Afu r6]
   show (bif true then bif true then bif true then (bif (((A0 (R:Int) (R:Int) (I3 R (j+1) (x.2.drop (j+1)) (Ic R))&&Ke (R:Int) (R:Int) (j:Int) (0:Int) (x.2.getD j ([],0)).1)&&(Al (I3 R (j+1) (x.2.drop (j+1)) (Ic R))&&Al (x.2.getD j ([],0)).1))&&Af (x.2.getD j ([],0)).2) then
    qr.B7.L0 N F (R:Int) (C:Int) l (Ab ((j:Int)-(1:Int))) (Gj (toNat (R:Int)) (toNat (R:Int)) (I3 R (j+1) (x.2.drop (j+1)) (Ic R)) (j:Int) (0:Int) (x.2.getD j ([],0)).1 (x.2.getD j ([],0)).2) else none) else none else none else none)=_
   rw [A4g,A4g,A4g,hr1,hap,hb.1,hg.1,hg.2.1,A4m,A4m,A4m,A4g,A4i,An (by omega) (by omega),← Aea (by omega)]
   exact ih F (by omega) (by omega)
theorem Aiv {R C:Nat} {l:List Int} (hl:l.length=R*C) (al:Al l=true) {x:List Int × List (List Int × Int)} (hx:Ln R C l=some x):Al x.1=true∧x.1.length=R*C∧x.2.length=Jj R C∧Adj R 0 x.2 :=
 Abr R C (Jj R C) 0 l x al hl (by unfold Jj; omega) hx
theorem Wr {r c:Int} {l:List Int} (h:D5 r c l=0):Fa r c l=if Ow r.toNat c.toNat l=true then 0 else 2:=by
 unfold Fa; rw [A42 (by rw [h]; decide)]
theorem Aip {r c:Int} {l:List Int} (h:D5 r c l≠0):Fa r c l=D5 r c l:=by unfold Fa; rw [A43 h]
theorem Aag {r c:Int} {l:List Int} {e:Int} (h:Fa r c l=e) (he:e≠0):qX r c l=L8 e∧rX r c l=L8 e:=by unfold qX rX; rw [h,A43 he,A43 he]; exact ⟨rfl,rfl⟩
theorem Vt {r c:Int} {l:List Int} (h:Fa r c l=0):qX r c l=(r,r,Pa r.toNat c.toNat l,0)∧rX r c l=(r,c,Na r.toNat c.toNat l,0):=by unfold qX rX; rw [h]; exact ⟨rfl,rfl⟩
theorem Aek {drops:List Nat} {e:Int} {g h:W3}:Wk drops (Adh e) (DV.tup [.agg [.int .i64 (L8 e).1,.int .i64 (L8 e).2.1,.ints g .u64 (L8 e).2.2.1],.agg [.int .i64 (L8 e).1,.int .i64 (L8 e).2.1,.ints h .u64 (L8 e).2.2.1],.int .i64 e]) :=
 Wk.Hm (.cons (Wk.F7 (.cons .int (.cons .int (.cons Nq .nil)))) (.cons (Wk.F7 (.cons .int (.cons .int (.cons Nq .nil)))) (.cons .int .nil)))
theorem qr.B7.known:qr.B7.Kn:=qr.B7.Ad (.cons Dv.Check.known (.cons As.Apply.known (.cons Aa.E9.known (.cons qr.down.known (.cons Ag.Finite.known .nil))))) fun r c l hp=>by
 have al:Al l=true:=hp
 show ∃ N dv drops,_=some dv∧Wk drops dv (DV.tup [.agg [.int .i64 (qX r c l).1,.int .i64 (qX r c l).2.1,.ints .arg .u64 (qX r c l).2.2.1],.agg [.int .i64 (rX r c l).1,.int .i64 (rX r c l).2.1,.ints .arg .u64 (rX r c l).2.2.1],.int .i64 (Fa r c l)])
 by_cases h1:D5 r c l=0
 ·obtain ⟨hr,hf⟩:=Aiz h1
  have h36:=Tg hr
  obtain ⟨R,C,rfl,rfl,r6,c6,hl⟩:=Co hr
  have d0:decide (0+l.length≤Ha)=true:=A4h (by unfold Ha; omega)
  cases hx:Ln R C l with
  | none =>
    have hfo:Ow R C l=false:=by unfold Ow; rw [hx]; rfl
    have he:Fa (R:Int) (C:Int) l=2:=by rw [Wr h1,A4i,A4i,hfo]; rfl
    obtain ⟨e1,e2⟩:=Aag he (by decide)
    have hd:Hv (R:Int) (C:Int) ([]++l)=L8 2:=by
     unfold Hv
     rw [List.nil_append,A4i,A4i,hx]; rfl
    rw [e1,e2,he]
    exact ⟨0,Adh 2,[],by rw [qr.B7.ev,al,A4g,Pd h1,A4k,d0,A4g,hd,List.nil_append,hr,hf,al,A4m,A4m,A4g,show ((L8 2).2.2.2 !=(0:Int))=true from rfl,A4g]; rfl,Aek⟩
  | some x =>
    obtain ⟨x1,x2,x3,x4⟩:=Aiv hl al hx
    have hd:Hv (R:Int) (C:Int) ([]++l)=((R:Int),(C:Int),x.1,0):=by
     unfold Hv Na
     rw [List.nil_append,A4i,A4i,hx]; rfl
    have hmd:Ql (R:Int) (C:Int) ([]++l)=Aav x.2:=by
     unfold Ql
     rw [List.nil_append,A4i,A4i,hx]
    have hn:x.2.length≤6:=by rw [x3]; unfold Jj; omega
    have hloop:=Aio 8 r6 hx x4 x1 (by rw [x2]; exact A5c r6 c6) x.2.length 8 (A5a _) (by omega)
    rw [A4u (A5a _)] at hloop
    have hrun:=qr.B7.ev 8 (R:Int) (C:Int) l
    rw [al,A4g,Pd h1,A4k,d0,A4g,hd,hmd,Ahq,List.nil_append,hr,hf,al,A4m,A4m,A4g,show (((R:Int),(C:Int),x.1,(0:Int)).2.2.2 !=(0:Int))=false from rfl,A4k,Afu r6,An (by omega) (by omega)] at hrun
    have hrun:=hrun.trans hloop
    cases hfo:Ow R C l with
    | false =>
      have he:Fa (R:Int) (C:Int) l=2:=by rw [Wr h1,A4i,A4i,hfo]; rfl
      obtain ⟨e1,e2⟩:=Aag he (by decide)
      rw [hfo,A4k] at hrun
      rw [e1,e2,he]
      exact ⟨8,Adh 2,[],hrun,Aek⟩
    | true =>
      have he:Fa (R:Int) (C:Int) l=0:=by rw [Wr h1,A4i,A4i,hfo]; rfl
      obtain ⟨e1,e2⟩:=Vt he
      rw [hfo,A4g] at hrun
      rw [e1,e2,he,A4i,A4i]
      exact ⟨8,_,[],hrun,Wk.Hm (.cons (Wk.F7 (.cons .int (.cons .int (.cons (.fresh _ _) .nil)))) (.cons (Wk.F7 (.cons .int (.cons .int (.cons .N1 .nil)))) (.cons .int .nil)))⟩
 ·have he:=Aip h1
  obtain ⟨e1,e2⟩:=Aag he h1
  rw [e1,e2,he]
  exact ⟨0,Adh (D5 r c l),[],by rw [qr.B7.ev,al,A4g,neI h1,A4g]; rfl,Aek⟩
theorem Ak9 {r c:Int} {l:List Int} (h:Fa r c l=0):D5 r c l=0:=by
 by_cases h1:D5 r c l=0
 ·exact h1
 ·rw [Aip h1] at h; exact absurd h h1
theorem Abn {r c:Int} {l:List Int} (al:Al l=true) (h:Fa r c l=0):∃ R C:Nat,r=R∧c=C∧R≤6∧C≤6∧l.length=R*C∧Al (Pa R C l)=true∧(Pa R C l).length=R*R∧Al (Na R C l)=true∧(Na R C l).length=R*C∧Dc (Pa R C l)=true∧Dc (Na R C l)=true:=by
 have h1:=Ak9 h
 rw [Wr h1] at h
 obtain ⟨R,C,rfl,rfl,r6,c6,hl⟩:=Co (Aiz h1).1
 rw [A4i,A4i] at h
 by_cases ho:Ow R C l=true
 ·unfold Ow at ho
  obtain ⟨o1,o2⟩:=Ac.1 ho
  obtain ⟨o3,o4⟩:=Ac.1 o2
  obtain ⟨q1,q2⟩:=Av8 o1
  obtain ⟨g1,g2⟩:=Av7 al hl o1
  exact ⟨R,C,rfl,rfl,r6,c6,hl,q1,q2,g1,g2,o3,o4⟩
 ·rw [A42 ho] at h; exact absurd h (by decide)
theorem Ze {R C:Nat} {l:List Int} (r6:R≤6) (c6:C≤6) (hl:l.length=R*C) {x y a b:Int} (hp:Ia (R:Int) (C:Int) x y a b=true) :
 Cv (R:Int) (C:Int) l x y a b=(a,b,Cx a.toNat b.toNat fun i k=>Fp (C:Int) l (x+(i:Int)) (y+(k:Int)),0):=by
 unfold Cv; rw [A43 (Em r6 c6 hl),A43 hp]
theorem Ac0 {r c:Int} {l:List Int} (al:Al l=true) (h:Fa r c l=0) :
 Cv r r (Pa r.toNat c.toNat l) 0 0 r (min r c)=Un r c l∧Cv r c (Na r.toNat c.toNat l) 0 0 (min r c) c=Og r c l:=by
 obtain ⟨R,C,rfl,rfl,r6,c6,hl,q1,q2,g1,g2,_,_⟩:=Abn al h
 unfold Un Og
 rw [h,A42 (by decide),A42 (by decide),A4i,A4i]
 have p1:Ia (R:Int) (R:Int) 0 0 (R:Int) (min (R:Int) (C:Int))=true:=A4h (by omega)
 have p2:Ia (R:Int) (C:Int) 0 0 (min (R:Int) (C:Int)) (C:Int)=true:=A4h (by omega)
 rw [Ze r6 r6 q2 p1,Ze r6 c6 g2 p2]
 exact ⟨rfl,rfl⟩
theorem qr.Gu.known:qr.Gu.Kn:=qr.Gu.Ad (.cons Aa.Part.known (.cons qr.B7.known .nil)) fun r c l hp=>by
 have al:Al l=true:=hp
 show ∃ N dv drops,_=some dv∧Wk drops dv (DV.tup [.agg [.int .i64 (Un r c l).1,.int .i64 (Un r c l).2.1,.ints .fresh .u64 (Un r c l).2.2.1],.agg [.int .i64 (Og r c l).1,.int .i64 (Og r c l).2.1,.ints .fresh .u64 (Og r c l).2.2.1],.int .i64 (Fa r c l)])
 by_cases h:Fa r c l=0
 ·obtain ⟨e1,e2⟩:=Vt h
  obtain ⟨t1,t2⟩:=Ac0 al h
  refine ⟨0,DV.tup [.agg [.int .i64 (Un r c l).1,.int .i64 (Un r c l).2.1,.ints .fresh .u64 (Un r c l).2.2.1],.agg [.int .i64 (Og r c l).1,.int .i64 (Og r c l).2.1,.ints .fresh .u64 (Og r c l).2.2.1],.int .i64 0],[],by rw [qr.Gu.ev,al,A4g,Pd h,A4k,e1,e2,t1,t2],by rw [h]; exact Wk.Hm (.cons (Wk.F7 (.cons .int (.cons .int (.cons .Jh .nil)))) (.cons (Wk.F7 (.cons .int (.cons .int (.cons .Jh .nil)))) (.cons .int .nil)))⟩
 ·have e1:Un r c l=L8 (Fa r c l):=by unfold Un; rw [A43 h]
  have e2:Og r c l=L8 (Fa r c l):=by unfold Og; rw [A43 h]
  rw [e1,e2]
  exact ⟨0,Adh (Fa r c l),[],by rw [qr.Gu.ev,al,A4g,neI h,A4g]; rfl,Aek⟩
namespace EqRef17
def Ah.Div.Bc:List (Nat × Entry):=[(145,Ah.B.spec),(147,Ah.F.spec)]
def Ah.Div.E:Env:=Bi (Be Ah.Div.Bc) (fun _=>false) (fun _=>none) (fun _=>none)
theorem Ah.Div.ev (N:Nat) (a b:Int):B0 Ah.Div.E N f87 (Ak f87) [.int .u64 a,.int .u64 b]=bif (Af a) then bif (Af b) then some (.int .u64 (Hf ((Ieee.double.div (toNat a) (toNat b)).getD nanBits))) else none else none:=by kernel_rfl
abbrev _root_.Go.Proofs.S1.Ah.Div.Kn:=A8 prog 87 Ah.Div.spec
theorem Ah.Div.Ad (hk:A2 prog Ah.Div.Bc) (h:Hyp Ah.Div.E f87 Ah.Div.ts Ah.Div.pre Ah.Div.out):Ah.Div.Kn :=
 Am (A5 hk _ _ _) func87 (by kernel_rfl) (by kernel_rfl) h
def Ah.Finite.hint:Nat→Option Ba
 | 0=>some { keep:=[0,3],objs:=[],boxes:=[] }
 | _=>none
def Ah.Finite.Bc:List (Nat × Entry):=[(114,A6.Finite.spec)]
def Ah.Finite.E:Env:=Bi (Be Ah.Finite.Bc) (fun _=>false) Ah.Finite.hint (fun _=>none)
section
variable (N M:Nat) (x:List Int) (p3:Int)
def Ah.Finite.L0:Option DV:=B8 Ah.Finite.E N f74 (Ak f74) [1,0,1,0] [] M ⟨Ff 16 [(0,.ints .arg .u64 x),(3,.int .i64 p3)],[]⟩
theorem Ah.Finite.Ar:Ah.Finite.L0 N (M+1) x p3=bif (Bb p3 (length x:Int)) then bif ((decide (0≤p3))&&(decide (p3<(length x:Int)))) then bif (Af (getD x (toNat p3) 0)) then bif (!(Dz (getD x (toNat p3) 0))) then some (.bool false) else Ah.Finite.L0 N M x (Ab (p3+1)) else none else none else some (.bool true):=by kernel_rfl
theorem Ah.Finite.ev:B0 Ah.Finite.E N f74 (Ak f74) [.ints .arg .u64 x] =
 Ah.Finite.L0 N N x 0:=by kernel_rfl
end
abbrev _root_.Go.Proofs.S1.Ah.Finite.Kn:=A8 prog 74 Ah.Finite.spec
theorem Ah.Finite.Ad (hk:A2 prog Ah.Finite.Bc) (h:Hyp Ah.Finite.E f74 Ah.Finite.ts Ah.Finite.pre Ah.Finite.out):Ah.Finite.Kn :=
 Am (A5 hk _ _ _) func74 (by kernel_rfl) (by kernel_rfl) h
def Ij.Check.Bc:List (Nat × Entry):=[(74,Ah.Finite.spec),(90,Ae.Ip.spec)]
def Ij.Check.E:Env:=Bi (Be Ij.Check.Bc) (fun _=>false) (fun _=>none) (fun _=>none)
theorem Ij.Check.ev (N:Nat) (r c:Int) (l:List Int):B0 Ij.Check.E N f35 (Ak f35) [.agg [.int .i64 r,.int .i64 c,.ints .arg .u64 l]]=bif (!(A0 r c l)) then some (.int .i64 1) else bif (Bs l) then bif (!(Dc l)) then some (.int .i64 4) else some (.int .i64 0) else none:=by kernel_rfl
abbrev _root_.Go.Proofs.S1.Ij.Check.Kn:=A8 prog 35 Ij.Check.spec
theorem Ij.Check.Ad (hk:A2 prog Ij.Check.Bc) (h:Hyp Ij.Check.E f35 Ij.Check.ts Ij.Check.pre Ij.Check.out):Ij.Check.Kn :=
 Am (A5 hk _ _ _) func35 (by kernel_rfl) (by kernel_rfl) h
end EqRef17
open EqRef17
theorem Ah.Div.known:Ah.Div.Kn:=Ah.Div.Ad (.cons Ah.B.known (.cons Ah.F.known .nil)) fun a b hp=>by
 obtain ⟨ha,hb⟩:=Ac.1 hp
 obtain ⟨a,rfl,hn⟩:=Bw ha
 obtain ⟨b,rfl,hm⟩:=Bw hb
 refine ⟨0,Ah.Div.out [.i a,.i b],[],?_,.int⟩
 rw [Ah.Div.ev,ha,hb,A4i,A4i]
 unfold Hf
 rw [Atq hn hm H2]; rfl
theorem Y3 (N:Nat) {x:List Int} (hx:Bs x=true):∀ (k i F:Nat),i+k=x.length→k<F→Ah.Finite.L0 N F x (i:Int)=some (.bool ((x.drop i).all Dz)):=by
 obtain ⟨hl,hu⟩:=Hs hx
 intro k
 induction k with
 | zero =>
   intro i F hi hF
   obtain ⟨F,rfl⟩:∃ G,F=G+1:=⟨F-1,by omega⟩
   rw [Ah.Finite.Ar,Av,A4l (by omega),A4k,A4u (by omega)]; rfl
 | succ k ih =>
   intro i F hi hF
   obtain ⟨F,rfl⟩:∃ G,F=G+1:=⟨F-1,by omega⟩
   rw [Ah.Finite.Ar,Av,A4h (show (i:Int)<(x.length:Int) by omega),A4g,A4h (show (0:Int)≤(i:Int) by omega),A4m,A4g,A4i,hu i (by omega),A4g,Jf (by omega),List.all_cons]
   cases Dz (x.getD i 0) with
   | false=>rfl
   | true =>
     rw [A5f,A4k,An (by omega) (by omega),A5t]
     exact ih (i+1) F (by omega) (by omega)
theorem Ah.Finite.known:Ah.Finite.Kn:=Ah.Finite.Ad (.cons A6.Finite.known .nil) fun x hp=>by
 have hp:Bs x=true:=hp
 refine ⟨x.length+1,Ah.Finite.out [.l x],[],?_,.bool⟩
 show _=some (DV.bool (x.all Dz))
 rw [Ah.Finite.ev]
 exact Y3 _ hp x.length 0 (x.length+1) (by omega) (by omega)
theorem Ij.Check.known:Ij.Check.Kn:=Ij.Check.Ad (.cons Ah.Finite.known (.cons Ae.Ip.known .nil)) fun r c l hp=>by
 have hp:Al l=true:=hp
 refine ⟨0,Ij.Check.out [.i r,.i c,.l l],[],?_,.int⟩
 show _=some (DV.int .i64 (D5 r c l))
 rw [Ij.Check.ev]
 unfold D5
 by_cases h:A0 r c l=true
 ·have:=Tg h
  rw [h,A5f,A4k,Fu hp (by omega),A4g,A43 rfl]
  cases Dc l<;>rfl
 ·have h':A0 r c l=false:=by simpa using h
  rw [h']; rfl
section
variable {n Q:Nat} {l m:List Int}
end
namespace EqRef14
def Cb.B7.hint:Nat→Option Ba
 | 0=>some { keep:=[1,2,3,4,5],objs:=[(0,4,100004,.recs 175 3 [])],boxes:=[1,2,3] }
 | 2=>some { keep:=[2,3,4,9,10],objs:=[(0,4,100004,.recs 175 3 [])],boxes:=[2,3,9] }
 | _=>none
def Cb.B7.Bc:List (Nat × Entry):=[(74,Ah.Finite.spec),(22,Ae.Pc.spec),(95,Ae.E9.arg.spec),(179,Bh.Apply.spec),(177,Bh.Bn.spec),(178,Cb.D7.spec)]
def Cb.B7.E:Env:=X0 (Be Cb.B7.Bc) (fun _=>false) Cb.B7.hint (fun _=>none) (Aja [(22,[.s .u64]),(43,[.i .u64])])
section
variable (N M:Nat) (r c p10:Int) (p3_1:List Int) (p4_1:List (List DV)) (p9 l:List Int) (p5:Int) (p3:List Int) (p4:List (List DV))
def Cb.B7.L0:Option DV:=B8 Cb.B7.E N f140 (Ak f140) [1,1,1,0,1,0] [] M ⟨Ff 95 [(1,.ptr 1 0 0),(2,.ptr 2 0 0),(3,.ptr 3 0 0),(4,.oref 100004),(5,.int .i64 p5)],[(1,false,.box [.int .i64 r,.int .i64 c,.ints .arg .u64 l]),(2,false,.box [.int .i64 0,.int .i64 0,.nil,.int .i64 0,.int .i64 0,.nil,.bool false]),(3,false,.box [.int .i64 r,.int .i64 c,.ints .arg .u64 p3]),(100004,false,.recs 175 3 p4)]⟩
def Cb.B7.L1:Option DV:=B8 Cb.B7.E N f140 (Ak f140) [1,1,1,1,1,0,1,0] [] M ⟨Ff 95 [(2,.ptr 2 0 0),(3,.ptr 3 0 0),(4,.oref 100004),(9,.ptr 9 0 0),(10,.int .i64 p10)],[(2,false,.box [.int .i64 0,.int .i64 0,.nil,.int .i64 0,.int .i64 0,.nil,.bool false]),(3,false,.box [.int .i64 r,.int .i64 c,.ints .arg .u64 p3_1]),(9,false,.box [.int .i64 r,.int .i64 r,.ints .arg .u64 p9]),(100004,false,.recs 175 3 p4_1)]⟩
theorem Cb.B7.Ar:Cb.B7.L0 N (M+1) r c l p5 p3 p4=bif ((Bb p5 c)&&(Bb p5 (Ab (r-1)))) then bif (Fv r c p3 p5&&B5 (0≤p5∧p5≤r)) then bif (Bs (Ci c p3 p5 p5 (toNat (r-p5)))) then bif (!(Dc (Ci c p3 p5 p5 (toNat (r-p5))))) then some (.agg [.int .i64 0,.int .i64 0,.nil,.int .i64 0,.int .i64 0,.nil,.bool false]) else bif (Bs (Ci c p3 p5 p5 (toNat (r-p5)))&&B5 (1≤length (Ci c p3 p5 p5 (toNat (r-p5)))∧length (Ci c p3 p5 p5 (toNat (r-p5)))≤64)) then bif (!(decide ((Mz (Ci c p3 p5 p5 (toNat (r-p5)))).2.2.2=0))) then some (.agg [.int .i64 0,.int .i64 0,.nil,.int .i64 0,.int .i64 0,.nil,.bool false]) else bif (((A0 r c p3&&Ke r c p5 p5 ((Mz (Ci c p3 p5 p5 (toNat (r-p5)))).1))&&(Al p3&&Al ((Mz (Ci c p3 p5 p5 (toNat (r-p5)))).1)))&&Af ((Mz (Ci c p3 p5 p5 (toNat (r-p5)))).2.1)) then bif (A0 r c (Gj (toNat r) (toNat c) p3 p5 p5 ((Mz (Ci c p3 p5 p5 (toNat (r-p5)))).1) ((Mz (Ci c p3 p5 p5 (toNat (r-p5)))).2.1))&&B5 (0≤p5∧p5<r∧p5<c)) then bif (decide ((length p4)+1≤Ah4)) then Cb.B7.L0 N M r c l (Ab (p5+1)) (Oz (toNat r) (toNat c) (Gj (toNat r) (toNat c) p3 p5 p5 ((Mz (Ci c p3 p5 p5 (toNat (r-p5)))).1) ((Mz (Ci c p3 p5 p5 (toNat (r-p5)))).2.1)) (toNat p5) ((Mz (Ci c p3 p5 p5 (toNat (r-p5)))).2.2.1)) (p4++[[.ints .arg .u64 ((Mz (Ci c p3 p5 p5 (toNat (r-p5)))).1),.int .u64 ((Mz (Ci c p3 p5 p5 (toNat (r-p5)))).2.1),.int .u64 ((Mz (Ci c p3 p5 p5 (toNat (r-p5)))).2.2.1)]]) else none else none else none else none else none else none else bif (Cg r) then Cb.B7.L1 N N r c (Ab ((length p4:Int)-1)) p3 p4 (Ic (toNat r)) else none :=
 Eq.trans (by kernel_rfl)
 (Ax (R6 (Bb p5 c)) (Ax (R6 (Bb p5 c)) (Ax (No (Bb p5 c)) (Ax (No (Bb p5 c)) (Ax (Ang (Bb p5 c)) (Ax (W5 (Bb p5 c)) (Cw (tt1 _ _) (E1 (E1 (E1 rfl (E1 (E1 rfl (Cw (Cy _) (Cw (Cy _) rfl rfl) rfl)) rfl)) rfl) rfl) rfl)))))))
theorem Cb.B7.Cd:Cb.B7.L1 N (M+1) r c p10 p3_1 p4_1 p9=bif (Ex 0 p10) then bif ((decide (0≤p10))&&(decide (p10<(length p4_1:Int)))) then bif ((decide ((toNat p10)<(length p4_1)))&&(isC (.s .u64) (getD (getD p4_1 (toNat p10) []) 0 .undef))) then bif ((decide (0≤p10))&&(decide (p10<(length p4_1:Int)))) then bif ((decide ((toNat p10)<(length p4_1)))&&(isC (.i .u64) (getD (getD p4_1 (toNat p10) []) 1 .undef))) then bif (((A0 r r p9&&Ke r r p10 0 (Ss (getD (getD p4_1 (toNat p10) []) 0 .undef)))&&(Al p9&&Al (Ss (getD (getD p4_1 (toNat p10) []) 0 .undef))))&&Af (Ait (getD (getD p4_1 (toNat p10) []) 1 .undef))) then Cb.B7.L1 N M r c (Ab (p10-1)) p3_1 p4_1 (Gj (toNat r) (toNat r) p9 p10 0 (Ss (getD (getD p4_1 (toNat p10) []) 0 .undef)) (Ait (getD (getD p4_1 (toNat p10) []) 1 .undef))) else none else none else none else none else none else bif (Bs p9) then bif ((!(Dc p9))||(Bs p3_1)) then bif ((!(Dc p9))||(!(Dc p3_1))) then some (.agg [.int .i64 0,.int .i64 0,.nil,.int .i64 0,.int .i64 0,.nil,.bool false]) else some (.agg [.int .i64 r,.int .i64 r,.ints .arg .u64 p9,.int .i64 r,.int .i64 c,.ints .arg .u64 p3_1,.bool true]) else none else none :=
 Eq.trans (by kernel_rfl)
 (E1 (Cw (J1 _ _) (Cw (J1 _ _) (Cw (J1 _ _) (Cw (J1 _ _) (Cw (Cy _) rfl rfl) rfl) rfl) rfl) rfl) (E1 (Ax (W7 (Dc p9)) (Ax (R3 (Dc p9)) (Cw (Ajt _ _) (Ax (R3 (Dc p9)) (Ax (Zu (Dc p9)) (Cw (Aqo _ _) rfl rfl))) rfl))) rfl))
theorem Cb.B7.ev:B0 Cb.B7.E N f140 (Ak f140) [.agg [.int .i64 r,.int .i64 c,.ints .arg .u64 l]] =
 Cb.B7.L0 N N r c l 0 l []:=by kernel_rfl
end
abbrev _root_.Go.Proofs.S1.Cb.B7.Kn:=A8 prog 140 Cb.B7.spec
theorem Cb.B7.Ad (hk:A2 prog Cb.B7.Bc) (h:Hyp Cb.B7.E f140 Cb.B7.ts Cb.B7.pre Cb.B7.out):Cb.B7.Kn :=
 Am (Zl hk _ _ _ _) func140 (by kernel_rfl) (by kernel_rfl) h
def Cb.Gu.Bc:List (Nat × Entry):=[(72,Ae.Part.spec),(140,Cb.B7.spec)]
def Cb.Gu.E:Env:=Bi (Be Cb.Gu.Bc) (fun _=>false) (fun _=>none) (fun _=>none)
theorem Cb.Gu.ev (N:Nat) (r c:Int) (l:List Int):B0 Cb.Gu.E N f70 (Ak f70) [.agg [.int .i64 r,.int .i64 c,.ints .arg .u64 l]]=bif ((A0 r c l&&Dc l)&&Al l) then bif (!(decide (Fa r c l=0))) then some (.agg [.int .i64 ((qX r c l).1),.int .i64 ((qX r c l).2.1),.ints .arg .u64 ((qX r c l).2.2.1),.int .i64 ((rX r c l).1),.int .i64 ((rX r c l).2.1),.ints .arg .u64 ((rX r c l).2.2.1),.bool (decide (Fa r c l=0))]) else bif (A0 ((qX r c l).1) ((qX r c l).2.1) ((qX r c l).2.2.1)&&Ia ((qX r c l).1) ((qX r c l).2.1) 0 0 r (min r c)) then bif (A0 ((rX r c l).1) ((rX r c l).2.1) ((rX r c l).2.2.1)&&Ia ((rX r c l).1) ((rX r c l).2.1) 0 0 (min r c) c) then some (.agg [.int .i64 r,.int .i64 (min r c),.ints .fresh .u64 (Cx (toNat r) (toNat (min r c)) (fun j1 j2=>Fp ((qX r c l).2.1) ((qX r c l).2.2.1) ((0:Int)+j1) ((0:Int)+j2))),.int .i64 (min r c),.int .i64 c,.ints .fresh .u64 (Cx (toNat (min r c)) (toNat c) (fun j1 j2=>Fp ((rX r c l).2.1) ((rX r c l).2.2.1) ((0:Int)+j1) ((0:Int)+j2))),.bool true]) else none else none else none :=
 Eq.trans (by kernel_rfl)
 (E1 (E1 rfl (Cw (Cy _) (Cw (Cy _) rfl rfl) rfl)) rfl)
abbrev _root_.Go.Proofs.S1.Cb.Gu.Kn:=A8 prog 70 Cb.Gu.spec
theorem Cb.Gu.Ad (hk:A2 prog Cb.Gu.Bc) (h:Hyp Cb.Gu.E f70 Cb.Gu.ts Cb.Gu.pre Cb.Gu.out):Cb.Gu.Kn :=
 Am (A5 hk _ _ _) func70 (by kernel_rfl) (by kernel_rfl) h
end EqRef14
open EqRef13 EqRef14
theorem Ae.Gk.arg.known:Ae.Gk.arg.Kn:=A8.Agl (P:=_) (pre:=Ae.Gk.pre) (out:=Ae.Gk.out) Ae.Gk.known [] fun ats h=>by
 unfold Ae.Gk.arg.pre at h
 split at h
 ·exact ⟨h,Wk.F7 (.cons .int (.cons .int (.cons (.fresh _ _) .nil)))⟩
 ·cases h
theorem Ae.E9.arg.known:Ae.E9.arg.Kn:=A8.Agl (P:=_) (pre:=Ae.E9.pre) (out:=Ae.E9.out) Ae.E9.known [] fun ats h=>by
 unfold Ae.E9.arg.pre at h
 split at h
 ·exact ⟨h,Wk.F7 (.cons .int (.cons .int (.cons (.fresh _ _) .nil)))⟩
 ·cases h
theorem Xh (N:Nat) {x:List Int} (hx:Bs x=true):∀ (k i F:Nat),i+k=x.length→k<F→Bh.B2.L0 N F x (i:Int)=some (.bool (E7 (x.drop i))):=by
 obtain ⟨hl,hu⟩:=Hs hx
 intro k
 induction k with
 | zero =>
   intro i F hi hF
   obtain ⟨F,rfl⟩:∃ G,F=G+1:=⟨F-1,by omega⟩
   rw [Bh.B2.Ar,Av,A4l (by omega),A4k,A4u (by omega)]; rfl
 | succ k ih =>
   intro i F hi hF
   obtain ⟨F,rfl⟩:∃ G,F=G+1:=⟨F-1,by omega⟩
   obtain ⟨n,hn,_⟩:=Bw (hu i (by omega))
   rw [Bh.B2.Ar,Av,A4h (show (i:Int)<(x.length:Int) by omega),A4g,A4h (show (0:Int)≤(i:Int) by omega),A4m,A4g,A4i,show Oo (x.getD i 0)=true by rw [hn]; exact Kh n,A4g,Zi,Jf (by omega)]
   unfold E7
   rw [List.all_cons]
   cases decide (Bz (x.getD i 0)=0) with
   | false=>rfl
   | true =>
     rw [A5f,A4k,A5t,An (by omega) (by omega)]
     exact ih (i+1) F (by omega) (by omega)
theorem Bh.B2.known:Bh.B2.Kn:=Bh.B2.Ad (.cons A6.Kind.known .nil) fun x hp=>by
 refine ⟨x.length+1,.bool (E7 (x.drop 1)),[],?_,.bool⟩
 rw [Bh.B2.ev]
 by_cases h:x.length=0
 ·rw [Bh.B2.Ar,Av,A4l (by omega),A4k,A4u (by omega)]; rfl
 ·exact Xh (x.length+1) hp (x.length-1) 1 (x.length+1) (by omega) (by omega)
theorem Ace (N:Nat) {x:List Int} (hx:Bs x=true):∀ (k i F:Nat),i+k=x.length→k<F→Bh.lead.L0 N F x (i:Int)=some (.int .i64 (Rx (x.drop i) (i:Int))):=by
 obtain ⟨hl,hu⟩:=Hs hx
 intro k
 induction k with
 | zero =>
   intro i F hi hF
   obtain ⟨F,rfl⟩:∃ G,F=G+1:=⟨F-1,by omega⟩
   rw [Bh.lead.Ar,Av,A4l (by omega),A4k,A4u (by omega)]; rfl
 | succ k ih =>
   intro i F hi hF
   obtain ⟨F,rfl⟩:∃ G,F=G+1:=⟨F-1,by omega⟩
   obtain ⟨n,hn,_⟩:=Bw (hu i (by omega))
   rw [Bh.lead.Ar,Av,A4h (show (i:Int)<(x.length:Int) by omega),A4g,A4h (show (0:Int)≤(i:Int) by omega),A4m,A4g,A4i,show Oo (x.getD i 0)=true by rw [hn]; exact Kh n,A4g,Zi,Jf (by omega),Rx]
   by_cases h:Bz (x.getD i 0)=0
   ·rw [A4h h,A43 h,A5f,A4k,An (by omega) (by omega)]
    exact ih (i+1) F (by omega) (by omega)
   ·rw [A4l h,A42 h]; rfl
theorem Bh.lead.known:Bh.lead.Kn:=Bh.lead.Ad (.cons A6.Kind.known .nil) fun x hp=>by
 refine ⟨x.length+1,.int .i64 (Rx x 0),[],?_,.int⟩
 rw [Bh.lead.ev]
 exact Ace (x.length+1) hp x.length 0 (x.length+1) (by omega) (by omega)
theorem Amj:∀ (x:List Int) (i:Nat),E7 x=false→∃ j:Nat,Rx x (i:Int)=((i+j:Nat):Int)∧j<x.length∧x.getD j 0=Qm x
 | [],i,h=>by cases h
 | b::l,i,h=>by
   unfold Rx Qm
   by_cases hk:Bz b=0
   ·rw [A43 hk,A43 hk]
    have h':E7 l=false:=by
     unfold E7 at h ⊢
     rw [List.all_cons,A4h hk,A5t] at h
     exact h
    obtain ⟨j,e1,e2,e3⟩:=Amj l (i+1) h'
    refine ⟨j+1,?_,by simp; omega,by simpa using e3⟩
    have:((i:Int)+1)=((i+1:Nat):Int):=rfl
    rw [this,e1]; omega
   ·rw [A42 hk,A42 hk]
    exact ⟨0,rfl,by simp,rfl⟩
theorem Afh {x:List Int} (h:E7 (x.drop 1)=false):E7 x=false:=by
 cases x with
 | nil=>exact h
 | cons b l =>
   have h:E7 l=false:=h
   unfold E7 at h ⊢
   rw [List.all_cons,h,Bool.and_false]
theorem Aca (N:Nat) {x:List Int} (h64:x.length≤64):∀ (k i F:Nat),i+1+k=x.length→k<F →
 Bh.Bn.L0 N F x ((i+1:Nat):Int) (Kg (i+1) fun _=>0)=some (.tup [.agg [.ints (.own 100004 tB) .u64 (Kg x.length fun _=>0),.int .u64 0,.int .u64 (x.getD 0 0)],.bool true]):=by
 intro k
 induction k with
 | zero =>
   intro i F hi hF
   obtain ⟨F,rfl⟩:∃ G,F=G+1:=⟨F-1,by omega⟩
   rw [Bh.Bn.Ar,Av,A4l (by omega),A4k,A4h (by omega),A4g,show i+1=x.length by omega]
 | succ k ih =>
   intro i F hi hF
   obtain ⟨F,rfl⟩:∃ G,F=G+1:=⟨F-1,by omega⟩
   rw [Bh.Bn.Ar,Av,A4h (by omega),A4g,A4h (by rw [Q5 (by omega)]; unfold Ha; omega),A4g,An (by omega) (by omega)]
   have:=ih (i+1) F (by omega) (by omega)
   rw [Kz (i+1+1) (i+1) _ rfl,Li] at this
   rw [Kz (i+1) i _ rfl]
   exact this
theorem Ae3 (N:Nat) {y:List Int} {mu beta d:Int} (ay:Al y=true) (hmu:Af mu=true) (hd:Af d=true) (h64:y.length≤64):∀ (k i F:Nat),i+1+k=y.length→k<F →
 Bh.Bn.L2 N F y mu beta d ((i+1:Nat):Int) (Kg (i+1) fun j=>Ey (y.getD j 0) d)=some (.tup [.agg [.ints (.own 100004 tB) .u64 (Kg y.length fun j=>Ey (y.getD j 0) d),.int .u64 (Ey (E4 mu (y.getD 0 0)) mu),.int .u64 beta],.bool true]):=by
 intro k
 induction k with
 | zero =>
   intro i F hi hF
   obtain ⟨F,rfl⟩:∃ G,F=G+1:=⟨F-1,by omega⟩
   have hy:=J0 ay 0
   rw [Bh.Bn.Lv,Av,A4l (by omega),A4k,A4h (show (0:Int)<(y.length:Int) by omega),A4g,A4h (show 0<y.length by omega),A4g,hmu,hy,A4m,A4g,Pw hmu hy,A4m,A4g,show i+1=y.length by omega]
 | succ k ih =>
   intro i F hi hF
   obtain ⟨F,rfl⟩:∃ G,F=G+1:=⟨F-1,by omega⟩
   rw [Bh.Bn.Lv,Av,A4h (show ((i+1:Nat):Int)<(y.length:Int) by omega),A4g,A4h (show (0:Int)≤((i+1:Nat):Int) by omega),A4m,A4g,A4i,A4h (show i+1<y.length by omega),A4g,J0 ay,hd,A4m,A4g,A4h (by rw [Q5 (by omega)]; unfold Ha; omega),A4g,An (by omega) (by omega)]
   have:=ih (i+1) F (by omega) (by omega)
   rw [Kz (i+1+1) (i+1) _ rfl,Li] at this
   rw [Kz (i+1) i _ rfl]
   exact this
theorem Aad (N:Nat) {x:List Int} (hx:Bs x=true) (hl:x.length≤64):∀ (k i F:Nat),i+k=x.length→k<F →
 Bh.Bn.L1 N F x (i:Int) ((x.take i).map fun b=>Bg b (-B1 (Bk x)))=Bh.Bn.L1 N (F-k) x (x.length:Int) (A9 x (-B1 (Bk x))):=by
 obtain ⟨_,hu⟩:=Hs hx
 have he:=Rm (Bk x)
 intro k
 induction k with
 | zero =>
   intro i F hi hF
   rw [show i=x.length by omega,List.take_of_length_le (A5a _)]; rfl
 | succ k ih =>
   intro i F hi hF
   obtain ⟨F,rfl⟩:∃ G,F=G+1:=⟨F-1,by omega⟩
   rw [Bh.Bn.Cd,Av,A4h (show (i:Int)<(x.length:Int) by omega),A4g,A4h (show (0:Int)≤(i:Int) by omega),A4m,A4g,A4i,An (x:=(0:Int)-B1 (Bk x)) (by omega) (by omega),show (0:Int)-B1 (Bk x)=-B1 (Bk x) by omega,
    show Df (getD x i 0) (-B1 (Bk x))=true from Ac.2 ⟨hu i (by omega),Aq.2 (by omega)⟩,A4g,A4h (by rw [A5m,List.length_take]; unfold Ha; omega),A4g,An (by omega) (by omega)]
   have:=ih (i+1) F (by omega) (by omega)
   rw [Q0 (by omega)] at this
   rw [show F+1-(k+1)=F-k by omega]
   exact this
theorem Bh.Bn.known:Bh.Bn.Kn:=Bh.Bn.Ad (.cons A6.Finite.known (.cons A6.Du.known (.cons A6.Neg.known (.cons Br.K7.known (.cons Ah.Bx.known (.cons Ah.Div.known (.cons Ah.Norm.known (.cons Ah.Bu.known (.cons Ah.Sub.known (.cons Bh.lead.known (.cons Bh.B2.known .nil))))))))))) fun x hp=>by
 obtain ⟨hx,hl⟩:=Ac.1 (show (Bs x&&B5 (1≤length x∧length x≤64))=true from hp)
 have hl:=Aq.1 hl
 have al:=Aec hx
 have he:=Rm (Bk x)
 show ∃ N dv drops,_=some dv∧Wk drops dv (DV.tup [.agg [.ints .fresh .u64 (Mz x).1,.int .u64 (Mz x).2.1,.int .u64 (Mz x).2.2.1],.bool (decide ((Mz x).2.2.2=0))])
 have hrun:=Bh.Bn.ev 66 x
 rw [hx,A4g] at hrun
 unfold Mz
 by_cases h3:E7 (x.drop 1)=true
 ·rw [h3,A4g] at hrun
  rw [A43 h3]
  exact ⟨66,_,[100004],hrun.trans (Aca 66 (by omega) (x.length-1) 0 66 (by omega) (by omega)),Wk.Hm (.cons (Wk.F7 (.cons (.drop _ _ _ _ (List.mem_singleton.2 rfl)) (.cons .int (.cons .int .nil)))) (.cons .bool .nil))⟩
 ·rw [A42 h3]
  have h3:E7 (x.drop 1)=false:=by simpa using h3
  rw [h3,A4k,A4g,Rr,A4g] at hrun
  have hs:=Aad 66 hx hl.2 x.length 0 66 (by omega) (by omega)
  have hrun:=hrun.trans hs
  obtain ⟨j,j1,j2,j3⟩:=Amj x 0 (Afh h3)
  rw [A5q] at j1
  have j1:Rx x 0=(j:Int):=j1
  have ly:=Ac5 x (-B1 (Bk x))
  have ay:=Ac6 (-B1 (Bk x)) al
  have oky:Bs (A9 x (-B1 (Bk x)))=true:=Fu ay (by omega)
  have iy:=J0 ay 0
  have gy:=Ta (x:=x) (k:=-B1 (Bk x)) (j:=0) (by omega)
  have sp:∀ mu:Int,Af mu=true→Df mu (B1 (Bk x))=true:=fun mu h=>Ac.2 ⟨h,Aq.2 (by omega)⟩
  have ny:=J8 (A9 x (-B1 (Bk x)))
  obtain ⟨F,hF⟩:∃ F,66-x.length=F+1:=⟨65-x.length,by omega⟩
  have key:∀ mu:Int,muI x=mu→Af mu=true→Bh.Bn.L2 66 66 (A9 x (-B1 (Bk x))) mu (Bg mu (B1 (Bk x))) (E4 ((A9 x (-B1 (Bk x))).getD 0 0) mu) 1 [4607182418800017408]=some (.tup [.agg [.ints (.own 100004 tB) .u64 (T5 x),.int .u64 (Uw x),.int .u64 (F4 x)],.bool true]):=by
   intro mu hmu hi
   have:=Ae3 66 (y:=A9 x (-B1 (Bk x))) (mu:=mu) (beta:=Bg mu (B1 (Bk x))) (d:=E4 ((A9 x (-B1 (Bk x))).getD 0 0) mu) ay hi (Pw iy hi) (by omega) (x.length-1) 0 66 (by omega) (by omega)
   have e1:Kg (A9 x (-B1 (Bk x))).length (fun j=>Ey (getD (A9 x (-B1 (Bk x))) j 0) (E4 (getD (A9 x (-B1 (Bk x))) 0 0) mu))=T5 x:=by
    unfold T5
    rw [ly,gy,← hmu]
    exact Ac8 fun j hj=>by rw [Ta hj]; rfl
   have e2:Ey (E4 mu (getD (A9 x (-B1 (Bk x))) 0 0)) mu=Uw x:=by
    unfold Uw
    rw [gy,hmu]; rfl
   have e3:Bg mu (B1 (Bk x))=F4 x:=by unfold F4; rw [hmu]
   rw [e1,e2] at this
   rw [e3] at this ⊢
   exact this
  have fin:∀ (b:Bool) (d:Option DV),Dz (F4 x)=b→(d=bif (!b) then some (.tup [.agg [.nil,.int .u64 (0:Int),.int .u64 (0:Int)],.bool false]) else some (.tup [.agg [.ints (.own 100004 tB) .u64 (T5 x),.int .u64 (Uw x),.int .u64 (F4 x)],.bool true])) →
   ∃ dv drops,d=some dv∧Wk drops dv (DV.tup [.agg [.ints .fresh .u64 (if Dz (F4 x)=true then (T5 x,Uw x,F4 x,(0:Int)) else ([],0,0,2)).1,.int .u64 (if Dz (F4 x)=true then (T5 x,Uw x,F4 x,(0:Int)) else ([],0,0,2)).2.1,.int .u64 (if Dz (F4 x)=true then (T5 x,Uw x,F4 x,(0:Int)) else ([],0,0,2)).2.2.1],.bool (decide ((if Dz (F4 x)=true then (T5 x,Uw x,F4 x,(0:Int)) else ([],0,0,2)).2.2.2=0))]):=by
   intro b d hb h
   cases b with
   | true =>
     rw [hb,A43 rfl]
     exact ⟨_,[100004],h,Wk.Hm (.cons (Wk.F7 (.cons (.drop _ _ _ _ (List.mem_singleton.2 rfl)) (.cons .int (.cons .int .nil)))) (.cons .bool .nil))⟩
   | false =>
     rw [hb,A42 (by decide)]
     exact ⟨_,[],h,Wk.Hm (.cons (Wk.F7 (.cons Nq (.cons .int (.cons .int .nil)))) (.cons .bool .nil))⟩
  have go:=fin (Dz (F4 x)) _ rfl (hrun.trans ?_)
  ·obtain ⟨dv,drops,k1,k2⟩:=go
   exact ⟨66,dv,drops,k1,k2⟩
  have hlead:=Zh al
  rw [hF,Bh.Bn.Cd,Av,A4l (show ¬ (x.length:Int)<(x.length:Int) by omega),A4k,oky,A4g,hx,A4g,j1,A4h (show (0:Int)≤(j:Int) by omega),A4h (show (j:Int)<(x.length:Int) by omega),A4m,A4g,A4i,j3,hlead,A4g]
  have d1:decide ((0:Int)<((A9 x (-B1 (Bk x))).length:Int))=true:=A4h (by omega)
  have d2:decide (0<(A9 x (-B1 (Bk x))).length)=true:=A4h (by omega)
  cases hn:Eb (Qm x) with
  | true =>
    have hm:muI x=Bt (A9 x (-B1 (Bk x))):=by unfold muI; rw [A43 hn]
    have eb:F4 x=Bg (Bt (A9 x (-B1 (Bk x)))) (B1 (Bk x)):=by unfold F4; rw [hm]
    rw [A5f,A4k,sp _ ny,A4g,G8 ny,A4g,key _ hm ny,d1,A4g,d2,A4g,iy,ny,A4m,A4g,eb]
  | false =>
    have hm:muI x=Cz (Bt (A9 x (-B1 (Bk x)))):=by unfold muI; rw [A42 (by rw [hn]; decide)]
    have my:=Oq ny
    have eb:F4 x=Bg (Cz (Bt (A9 x (-B1 (Bk x))))) (B1 (Bk x)):=by unfold F4; rw [hm]
    rw [A5z,A4g,ny,A4g,sp _ my,A4g,G8 my,A4g,key _ hm my,d1,A4g,d2,A4g,iy,my,A4m,A4g,eb]
open EqRef13 EqRef14
theorem Al0 {c b i:Int} {l:List Int} {n j:Nat} (h:j<n):(Ci c l b i n).getD j 0=Fp c l (i+(j:Int)) b:=by
 unfold Ci
 rw [A4q,A5x,List.getElem?_range h]; rfl
theorem Iz (a c b:Nat):toNat ((a:Int)*(c:Int)+(b:Int))=a*c+b:=by rw [← A41,← Int.natCast_add,A4i]
section
variable {R C i k:Nat} {l v:List Int} {t:Int}
theorem Aae (N M0:Nat) (r6:R≤6) (c6:C≤6) (al:Al l=true) (av:Al v=true) (hv:i+v.length≤R) {c:Nat} (hc:c<C) (hk:k≤c):∀ (cnt j F:Nat),j+cnt=v.length→cnt<F →
 Bh.Apply.L1 N M0 F (R:Int) (C:Int) l (i:Int) v t (j:Int) (apS R C l i k v t c j) (c:Int) (Ci (C:Int) l (c:Int) (i:Int) (R-i)) (Vb (C:Int) l (i:Int) v t (c:Int)) =
 Bh.Apply.L0 N M0 (R:Int) (C:Int) l (i:Int) v t ((c+1:Nat):Int) (apS R C l i k v t (c+1) 0):=by
 intro cnt
 induction cnt with
 | zero =>
   intro j F hj hF
   obtain ⟨F,rfl⟩:∃ G,F=G+1:=⟨F-1,by omega⟩
   obtain rfl:j=v.length:=by omega
   rw [Bh.Apply.Cd,Av,A4l (by omega),A4k,An (by omega) (by omega),Ai8]
   rfl
 | succ cnt ih =>
   intro j F hj hF
   obtain ⟨F,rfl⟩:∃ G,F=G+1:=⟨F-1,by omega⟩
   have e1:Ab ((i:Int)+(j:Int))=((i+j:Nat):Int):=by rw [An (by omega) (by omega)]; omega
   have hat:En (R:Int) (C:Int) (apS R C l i k v t c j) ((i+j:Nat):Int) (c:Int)=true:=Gy r6 c6 (Am1 c j) (by omega) hc
   have sl:=Hn (C:Int) (c:Int) (i:Int) (R-i) l
   have a1:=J0 av j
   have a2:=J0 (Kt (c:=(C:Int)) (b:=(c:Int)) (i:=(i:Int)) (n:=R-i) al) j
   have a3:Af (Vb (C:Int) l (i:Int) v t (c:Int))=true:=Ew _ _
   have hx:E4 ((Ci (C:Int) l (c:Int) (i:Int) (R-i)).getD j 0) (Cc (Vb (C:Int) l (i:Int) v t (c:Int)) (v.getD j 0))=Rs (C:Int) l (i:Int) (k:Int) v t ((i+j:Nat):Int) (c:Int):=by
    rw [Ai6 hk (by omega),Al0 (by omega),Al0 (by omega)]
   rw [Bh.Apply.Cd,Av,A4h (show (j:Int)<(v.length:Int) by omega),A4g,e1,sl,A4h (show (0:Int)≤(j:Int) by omega),A4h (show (j:Int)<((R-i:Nat):Int) by omega),A4m,A4g,A4g,A4i,a3,a1,A4m,A4g,a2,Ew,A4m,A4g,hat,A4g,
    Iz,Am0 hc hk (by omega) hx,An (by omega) (by omega)]
   exact ih (j+1) F (by omega) (by omega)
theorem Aaf (N:Nat) (r6:R≤6) (c6:C≤6) (hN:7<N) (hr:A0 (R:Int) (C:Int) l=true) (al:Al l=true) (av:Al v=true) (ht:Af t=true) (hv:i+v.length≤R):∀ (cnt c F:Nat),c+cnt=C→k≤c→cnt<F →
 Bh.Apply.L0 N F (R:Int) (C:Int) l (i:Int) v t (c:Int) (apS R C l i k v t c 0) =
 some (.agg [.int .i64 (R:Int),.int .i64 (C:Int),.ints .arg .u64 (Gj R C l (i:Int) (k:Int) v t)]):=by
 intro cnt
 induction cnt with
 | zero =>
   intro c F hc hk hF
   obtain ⟨F,rfl⟩:∃ G,F=G+1:=⟨F-1,by omega⟩
   obtain rfl:c=C:=by omega
   rw [Bh.Apply.Ar,Av,A4l (by omega),A4k,Am2]
 | succ cnt ih =>
   intro c F hc hk hF
   obtain ⟨F,rfl⟩:∃ G,F=G+1:=⟨F-1,by omega⟩
   have cp:Fv (R:Int) (C:Int) l (c:Int)=true:=Ac.2 ⟨hr,Aq.2 (by omega)⟩
   have e0:toNat ((R:Int)-(i:Int))=R-i:=by omega
   have st:=Ag5 (c:=(C:Int)) (b:=(c:Int)) (i:=(i:Int)) (l:=l) (m:=v.length) (n:=R-i) (by omega)
   have sl2:=Hn (C:Int) (c:Int) (i:Int) (R-i) l
   have sl:=Hn (C:Int) (c:Int) (i:Int) v.length l
   have sa:=Kt (c:=(C:Int)) (b:=(c:Int)) (i:=(i:Int)) (n:=v.length) al
   have ft:Mb v (Ci (C:Int) l (c:Int) (i:Int) v.length)=true:=Tv.2 ⟨by omega,by omega⟩
   rw [Bh.Apply.Ar,Av,A4h (by omega),A4g,cp,Aq.2 (show 0≤(i:Int)∧(i:Int)≤(R:Int) by omega),A4m,A4g,e0,A4i,st,sl2,
    A4h (show (0:Int)≤(v.length:Int) by omega),A4h (show (v.length:Int)≤((R-i:Nat):Int) by omega),A4m,A4g,ft,av,sa,A4m,A4m,A4g,ht,G6,A4m,A4g]
   have:=Aae (t:=t) N F r6 c6 al av hv (show c<C by omega) hk v.length 0 N (by omega) (by omega)
   exact this.trans (ih (c+1) F (by omega) (by omega) (by omega))
end
theorem Bh.Apply.known:Bh.Apply.Kn:=Bh.Apply.Ad (.cons Ah.H9.known (.cons Ah.Mul.known (.cons Ah.Sub.known (.cons Ae.Pc.known (.cons Ae.Gk.arg.known .nil))))) fun r c l i k v t hp=>by
 obtain ⟨h1,ht⟩:=Ac.1 (show (((A0 r c l&&Ke r c i k v)&&(Al l&&Al v))&&Af t)=true from hp)
 obtain ⟨h2,h3⟩:=Ac.1 h1
 obtain ⟨hr,hb⟩:=Ac.1 h2
 obtain ⟨al,av⟩:=Ac.1 h3
 have hb:=A46 hb
 obtain ⟨R,C,rfl,rfl,r6,c6,hl⟩:=Co hr
 obtain ⟨i,rfl⟩:∃ j:Nat,i=j:=⟨i.toNat,by omega⟩
 obtain ⟨k,rfl⟩:∃ j:Nat,k=j:=⟨k.toNat,by omega⟩
 refine ⟨8,Bh.Apply.out [.i (R:Int),.i (C:Int),.l l,.i (i:Int),.i (k:Int),.l v,.i t],[],?_,Wk.F7 (.cons .int (.cons .int (.cons .N1 .nil)))⟩
 show _=some (DV.agg [.int .i64 (R:Int),.int .i64 (C:Int),.ints .arg .u64 (Gj (toNat (R:Int)) (toNat (C:Int)) l (i:Int) (k:Int) v t)])
 rw [Bh.Apply.ev,A4i,A4i]
 have:=Aaf (R:=R) (C:=C) (i:=i) (k:=k) (l:=l) (v:=v) (t:=t) 8 r6 c6 (by omega) hr al av ht (by omega) (C-k) k 8 (by omega) (by omega) (by omega)
 rw [Ai7 hl] at this
 exact this
theorem An6 (N:Nat) {R C j:Nat} {l:List Int} {x:Int} (r6:R≤6) (c6:C≤6) (hj:j<C):∀ (cnt i F:Nat),i+cnt=R→j<i→cnt<F →
 Cb.D7.L0 N F (R:Int) (C:Int) (j:Int) (i:Int) (clS R C l j x i)=some (.agg [.int .i64 (R:Int),.int .i64 (C:Int),.ints .arg .u64 (Oz R C l j x)]):=by
 intro cnt
 induction cnt with
 | zero =>
   intro i F hi hji hF
   obtain ⟨F,rfl⟩:∃ G,F=G+1:=⟨F-1,by omega⟩
   obtain rfl:i=R:=by omega
   rw [Cb.D7.Ar,Av,A4l (by omega),A4k,Amx]
 | succ cnt ih =>
   intro i F hi hji hF
   obtain ⟨F,rfl⟩:∃ G,F=G+1:=⟨F-1,by omega⟩
   have hat:En (R:Int) (C:Int) (clS R C l j x i) (i:Int) (j:Int)=true:=Gy r6 c6 (Amw i) (by omega) hj
   rw [Cb.D7.Ar,Av,A4h (by omega),A4g,hat,A4g,Iz,Amv hj hji,An (by omega) (by omega)]
   exact ih (i+1) F (by omega) (by omega) (by omega)
theorem Cb.D7.known:Cb.D7.Kn:=Cb.D7.Ad (.cons Ae.Gk.arg.known .nil) fun r c l j b hp=>by
 obtain ⟨hr,hj⟩:=Ac.1 (show (A0 r c l&&B5 (0≤j∧j<r∧j<c))=true from hp)
 have hj:=Aq.1 hj
 obtain ⟨R,C,rfl,rfl,r6,c6,hl⟩:=Co hr
 obtain ⟨j,rfl⟩:∃ i:Nat,j=i:=⟨j.toNat,by omega⟩
 refine ⟨8,.agg [.int .i64 (R:Int),.int .i64 (C:Int),.ints .arg .u64 (Oz R C l j b)],[],?_,?_⟩
 ·rw [Cb.D7.ev,Gy r6 c6 hl (by omega) (by omega),A4g,Iz,X5 hl (by omega),An (by omega) (by omega)]
  exact An6 8 r6 c6 (by omega) (R-(j+1)) (j+1) 8 (by omega) (by omega) (by omega)
 ·show Wk _ _ (DV.agg [.int .i64 (R:Int),.int .i64 (C:Int),.ints .arg .u64 (Oz (toNat (R:Int)) (toNat (C:Int)) l (toNat (j:Int)) b)])
  rw [A4i,A4i,A4i]
  exact Wk.F7 (.cons .int (.cons .int (.cons .N1 .nil)))
def X9 (rows:List (List DV)) (ms:List (List Int × Int)):Prop:=rows.length=ms.length∧∀ i,i<ms.length→∃ b:Int,rows.getD i []=[.ints .arg .u64 (ms.getD i ([],0)).1,.int .u64 (ms.getD i ([],0)).2,.int .u64 b]
theorem X9.A3i {rows:List (List DV)} {ms:List (List Int × Int)} (h:X9 rows ms) (v:List Int) (t b:Int):X9 (rows++[[.ints .arg .u64 v,.int .u64 t,.int .u64 b]]) (ms++[(v,t)]):=by
 refine ⟨by rw [A48,A48,h.1]; rfl,fun i hi=>?_⟩
 rw [A48] at hi
 by_cases hlt:i<ms.length
 ·obtain ⟨b',hb⟩:=h.2 i hlt
  refine ⟨b',?_⟩
  rw [A4q,List.getElem?_append_left (by rw [h.1]; exact hlt),← A4q,hb,A4q (l:=ms++_),List.getElem?_append_left hlt,← A4q]
 ·have he:i=ms.length:=by
   have:i<ms.length+1:=hi
   omega
  refine ⟨b,?_⟩
  rw [A4q,A5u (by rw [h.1]; omega),A4q (l:=ms++_),A5u (by omega),he,h.1,Nat.sub_self]
  rfl
def Ar6:DV:=.agg [.int .i64 0,.int .i64 0,.nil,.int .i64 0,.int .i64 0,.nil,.bool false]
theorem Asf {x:List Int} (h0:x.length≠0) (h:x.length≤64) (hf:Dc x=true):C1 x=Mz x:=by
 unfold C1; rw [A42 (by omega),A43 hf]
theorem Acf (N:Nat) {R C:Nat} (l0:List Int) (r6:R≤6) (c6:C≤6):∀ (cnt j F:Nat) (l:List Int) (rows:List (List DV)) (ms:List (List Int × Int)),j+cnt=Jj R C→cnt<F→l.length=R*C→Al l=true→ms.length=j→X9 rows ms →
 (Ox R C cnt j l=none→Cb.B7.L0 N F (R:Int) (C:Int) l0 (j:Int) l rows=some Ar6) ∧
 (∀ x,Ox R C cnt j l=some x→∃ rows',X9 rows' (ms++x.2)∧Cb.B7.L0 N F (R:Int) (C:Int) l0 (j:Int) l rows=Cb.B7.L1 N N (R:Int) (C:Int) (Ab ((rows'.length:Int)-1)) x.1 rows' (Ic R)):=by
 intro cnt
 induction cnt with
 | zero =>
   intro j F l rows ms hj hF hl al hms hrows
   obtain ⟨F,rfl⟩:∃ G,F=G+1:=⟨F-1,by omega⟩
   unfold Jj at hj
   have hlt:(Bb (j:Int) (C:Int)&&Bb (j:Int) (Ab ((R:Int)-1)))=false:=by
    rw [Av,Av,An (by omega) (by omega),Bool.and_eq_false_iff,A4z,A4z]; omega
   refine ⟨fun h=>(by cases h),fun x hx=>?_⟩
   cases hx
   refine ⟨rows,by rw [List.append_nil]; exact hrows,?_⟩
   rw [Cb.B7.Ar,hlt,A4k,Lf r6,A4g,A4i]
 | succ cnt ih =>
   intro j F l rows ms hj hF hl al hms hrows
   obtain ⟨F,rfl⟩:∃ G,F=G+1:=⟨F-1,by omega⟩
   have hj0:=hj
   unfold Jj at hj
   have hr:=Em r6 c6 hl
   have hlt:(Bb (j:Int) (C:Int)&&Bb (j:Int) (Ab ((R:Int)-1)))=true:=by
    rw [Av,Av,An (by omega) (by omega),A4h (by omega),A4h (by omega)]; rfl
   have cp:Fv (R:Int) (C:Int) l (j:Int)=true:=Ac.2 ⟨hr,Aq.2 (by omega)⟩
   have ec:Ci (C:Int) l (j:Int) (j:Int) (toNat ((R:Int)-(j:Int)))=F3 R C l j:=by unfold F3; rw [show toNat ((R:Int)-(j:Int))=R-j by omega]
   have ca:Al (F3 R C l j)=true:=Kt al
   have cl:(F3 R C l j).length=R-j:=Hn _ _ _ _ _
   have cok:=Fu ca (by omega)
   rw [Cb.B7.Ar,hlt,A4g,cp,Aq.2 (show 0≤(j:Int)∧(j:Int)≤(R:Int) by omega),A4m,A4g,ec,cok,A4g,A4i,A4i,A4i]
   unfold Ox
   by_cases hf:Dc (F3 R C l j)=true
   ·have hmk:=Asf (x:=F3 R C l j) (by omega) (by omega) hf
    rw [hf,A5f,A4k,Aq.2 (show 1≤(F3 R C l j).length∧(F3 R C l j).length≤64 by omega),A4m,A4g,← hmk]
    by_cases he:(C1 (F3 R C l j)).2.2.2=0
    ·have hml:=Wb he
     have hma:=Wc ca
     have hap:Ke (R:Int) (C:Int) (j:Int) (j:Int) (C1 (F3 R C l j)).1=true:=A4h (by omega)
     have hlen:=Mm R C l (j:Int) (j:Int) (C1 (F3 R C l j)).1 (C1 (F3 R C l j)).2.1
     have hn:=ih (j+1) F (Aaw R C l j) (rows++[[.ints .arg .u64 (C1 (F3 R C l j)).1,.int .u64 (C1 (F3 R C l j)).2.1,.int .u64 (C1 (F3 R C l j)).2.2.1]]) (ms++[((C1 (F3 R C l j)).1,(C1 (F3 R C l j)).2.1)]) (by omega) (by omega) (Pn _ _ _ _) (Zf al j) (by rw [A48,hms]; rfl) (hrows.A3i _ _ _)
     rw [A43 he,A4h he,A5f,A4k,hr,hap,al,hma.1,hma.2.1,A4m,A4m,A4m,A4g,Em r6 c6 hlen,Aq.2 (show 0≤(j:Int)∧(j:Int)<(R:Int)∧(j:Int)<(C:Int) by omega),A4m,A4g,A4h (show rows.length+1≤Ah4 by rw [hrows.1]; unfold Ah4; omega),A4g,An (by omega) (by omega)]
     refine ⟨fun h=>?_,fun x hx=>?_⟩
     ·rw [Option.map_eq_none_iff] at h
      exact hn.1 h
     ·rw [Option.map_eq_some_iff] at hx
      obtain ⟨y,hy,rfl⟩:=hx
      obtain ⟨rows',h1,h2⟩:=hn.2 y hy
      refine ⟨rows',?_,h2⟩
      rw [List.append_assoc] at h1
      exact h1
    ·rw [A42 he,A4l he,A5z,A4g]
     exact ⟨fun _=>rfl,fun x hx=>(by cases hx)⟩
   ·have hf':Dc (F3 R C l j)=false:=by simpa using hf
    have he:(C1 (F3 R C l j)).2.2.2≠0:=by
     unfold C1
     rw [A42 (by omega),A42 hf]
     exact (by decide:(4:Int)≠0)
    rw [hf',A5z,A4g,A42 he]
    exact ⟨fun _=>rfl,fun x hx=>(by cases hx)⟩
theorem Acg (N:Nat) {R C:Nat} {L:List Int} (r6:R≤6) {ms:List (List Int × Int)} {rows:List (List DV)} (hrows:X9 rows ms) (hm:Adj R 0 ms) (aL:Bs L=true) (hn:ms.length≤6):∀ (j F:Nat),j≤ms.length→j<F →
 Cb.B7.L1 N F (R:Int) (C:Int) ((j:Int)-1) L rows (I3 R j (ms.drop j) (Ic R)) =
 bif (Dc (I3 R 0 ms (Ic R))&&Dc L) then some (.agg [.int .i64 (R:Int),.int .i64 (R:Int),.ints .arg .u64 (I3 R 0 ms (Ic R)),.int .i64 (R:Int),.int .i64 (C:Int),.ints .arg .u64 L,.bool true]) else some Ar6:=by
 have h36:=Aq2 r6
 intro j
 induction j with
 | zero =>
   intro F _ hF
   obtain ⟨F,rfl⟩:∃ G,F=G+1:=⟨F-1,by omega⟩
   have hb:=Tw R ms 0 (Ic R) (Ws R) (by unfold Ic; exact Cl _ _ _)
   have ok1:Bs (I3 R 0 ms (Ic R))=true:=Fu hb.1 (by omega)
   rw [Cb.B7.Cd,Fk,A4l (by omega),A4k,List.drop_zero,ok1,A4g,aL,A5s,A4g]
   cases Dc (I3 R 0 ms (Ic R)) with
   | false=>rfl
   | true=>cases Dc L<;>rfl
 | succ j ih =>
   intro F hj hF
   obtain ⟨F,rfl⟩:∃ G,F=G+1:=⟨F-1,by omega⟩
   have ej:(((j+1:Nat):Int))-1=(j:Int):=by omega
   have hg:=Xs hm j (by omega)
   have hb:=Tw R (ms.drop (j+1)) (j+1) (Ic R) (Ws R) (by unfold Ic; exact Cl _ _ _)
   have hr1:=Em r6 r6 hb.2
   have hap:Ke (R:Int) (R:Int) (j:Int) 0 (ms.getD j ([],0)).1=true:=A4h (by omega)
   obtain ⟨b,hrow⟩:=hrows.2 j (by omega)
   rw [Cb.B7.Cd,ej,Fk,A4h (show (0:Int)≤(j:Int) by omega),A4g,hrows.1,A4h (show (j:Int)<(ms.length:Int) by omega),A4m,A4g,A4i,A4h (show j<ms.length by omega),hrow,A4i]
   show (bif true then bif true then bif true then (bif (((A0 (R:Int) (R:Int) (I3 R (j+1) (ms.drop (j+1)) (Ic R))&&Ke (R:Int) (R:Int) (j:Int) (0:Int) (ms.getD j ([],0)).1)&&(Al (I3 R (j+1) (ms.drop (j+1)) (Ic R))&&Al (ms.getD j ([],0)).1))&&Af (ms.getD j ([],0)).2) then
    Cb.B7.L1 N F (R:Int) (C:Int) (Ab ((j:Int)-(1:Int))) L rows (Gj R R (I3 R (j+1) (ms.drop (j+1)) (Ic R)) (j:Int) (0:Int) (ms.getD j ([],0)).1 (ms.getD j ([],0)).2) else none) else none else none else none)=_
   rw [A4g,A4g,A4g,hr1,hap,hb.1,hg.1,hg.2.1,A4m,A4m,A4m,A4g,An (by omega) (by omega),← Aea (by omega)]
   exact ih F (by omega) (by omega)
theorem Axm {drops:List Nat} {e:Int}:Wk drops Ar6 (DV.agg [.int .i64 (L8 e).1,.int .i64 (L8 e).2.1,.ints .arg .u64 (L8 e).2.2.1,.int .i64 (L8 e).1,.int .i64 (L8 e).2.1,.ints .arg .u64 (L8 e).2.2.1,.bool false]) :=
 Wk.F7 (.cons .int (.cons .int (.cons Nq (.cons .int (.cons .int (.cons Nq (.cons .bool .nil)))))))
theorem Cb.B7.known:Cb.B7.Kn:=Cb.B7.Ad (.cons Ah.Finite.known (.cons Ae.Pc.known (.cons Ae.E9.arg.known (.cons Bh.Apply.known (.cons Bh.Bn.known (.cons Cb.D7.known .nil)))))) fun r c l hp=>by
 obtain ⟨h1,al⟩:=Ac.1 (show ((A0 r c l&&Dc l)&&Al l)=true from hp)
 obtain ⟨hr,hf⟩:=Ac.1 h1
 have hc:D5 r c l=0:=Atz hr hf
 obtain ⟨R,C,rfl,rfl,r6,c6,hl⟩:=Co hr
 show ∃ N dv drops,_=some dv∧Wk drops dv (DV.agg [.int .i64 (qX (R:Int) (C:Int) l).1,.int .i64 (qX (R:Int) (C:Int) l).2.1,.ints .arg .u64 (qX (R:Int) (C:Int) l).2.2.1,.int .i64 (rX (R:Int) (C:Int) l).1,.int .i64 (rX (R:Int) (C:Int) l).2.1,.ints .arg .u64 (rX (R:Int) (C:Int) l).2.2.1,.bool (decide (Fa (R:Int) (C:Int) l=0))])
 have hfe:=Wr hc
 rw [A4i,A4i] at hfe
 have hrun:=Cb.B7.ev 8 (R:Int) (C:Int) l
 obtain ⟨d1,d2⟩:=Acf 8 l r6 c6 (Jj R C) 0 8 l [] [] (by omega) (by unfold Jj; omega) hl al rfl ⟨rfl,fun i h=>absurd h (Nat.not_lt_zero _)⟩
 have bad:∀ d:Option DV,Fa (R:Int) (C:Int) l=2→d=some Ar6→∃ dv drops,d=some dv∧Wk drops dv (DV.agg [.int .i64 (qX (R:Int) (C:Int) l).1,.int .i64 (qX (R:Int) (C:Int) l).2.1,.ints .arg .u64 (qX (R:Int) (C:Int) l).2.2.1,.int .i64 (rX (R:Int) (C:Int) l).1,.int .i64 (rX (R:Int) (C:Int) l).2.1,.ints .arg .u64 (rX (R:Int) (C:Int) l).2.2.1,.bool (decide (Fa (R:Int) (C:Int) l=0))]):=fun d he h=>by
  obtain ⟨e1,e2⟩:=Aag he (by decide)
  rw [e1,e2,he]
  exact ⟨Ar6,[],h,Axm⟩
 cases hx:Ln R C l with
 | none =>
   have hfo:Ow R C l=false:=by unfold Ow; rw [hx]; rfl
   rw [hfo,A42 (by decide)] at hfe
   obtain ⟨dv,drops,k1,k2⟩:=bad _ hfe (hrun.trans (d1 hx))
   exact ⟨8,dv,drops,k1,k2⟩
 | some x =>
   obtain ⟨x1,x2,x3,x4⟩:=Aiv hl al hx
   obtain ⟨rows,hrows,hd⟩:=d2 x hx
   rw [List.nil_append] at hrows
   have h36:=A5c r6 c6
   have hn:x.2.length≤6:=by rw [x3]; unfold Jj; omega
   have hb:=Acg 8 (C:=C) r6 hrows x4 (Fu x1 (by omega)) hn x.2.length 8 (A5a _) (by omega)
   rw [A4u (A5a _)] at hb
   rw [hrows.1,An (by omega) (by omega)] at hd
   have hd:=hd.trans hb
   have hq:Pa R C l=I3 R 0 x.2 (Ic R):=by unfold Pa; rw [hx]
   have hrr:Na R C l=x.1:=by unfold Na; rw [hx]
   have hfo:Ow R C l=(Dc (I3 R 0 x.2 (Ic R))&&Dc x.1):=by unfold Ow; rw [hx,hq,hrr]; rfl
   rw [← hfo,← hq,← hrr] at hd
   cases hk:Ow R C l with
   | false =>
     rw [hk,A42 (by decide)] at hfe
     rw [hk,A4k] at hd
     obtain ⟨dv,drops,k1,k2⟩:=bad _ hfe (hrun.trans hd)
     exact ⟨8,dv,drops,k1,k2⟩
   | true =>
     rw [hk,A43 rfl] at hfe
     rw [hk,A4g] at hd
     obtain ⟨e1,e2⟩:=Vt hfe
     rw [e1,e2,hfe,A4i,A4i]
     exact ⟨8,_,[],hrun.trans hd,Wk.F7 (.cons .int (.cons .int (.cons .N1 (.cons .int (.cons .int (.cons .N1 (.cons .bool .nil)))))))⟩
namespace EqGiv
def C0.Rows.hint:Nat→Option Ba
 | 0=>some { keep:=[1,2,3,4,5,10,13,62,63],objs:=[(14,2,114002,.ints 43 .u64 [])],boxes:=[5,10,13] }
 | _=>none
def C0.Rows.Bc:List (Nat × Entry):=[(121,Aa.Check.spec),(137,Ag.Add.spec),(138,Ag.Mul.spec),(201,Ag.Sub.spec)]
def C0.Rows.E:Env:=Bi (Be C0.Rows.Bc) (fun _=>false) C0.Rows.hint (fun _=>none)
section
variable (N M:Nat) (r c:Int) (l:List Int) (i k x y p63:Int) (p2:List Int)
def C0.Rows.L0:Option DV:=B8 C0.Rows.E N f204 (Ak f204) [1,1,1,1,1,0,1,0] [] M ⟨Ff 120 [(1,.int .i64 i),(2,.int .i64 k),(3,.int .u64 x),(4,.int .u64 y),(5,.ptr 5 0 0),(10,.ptr 10 0 0),(13,.ptr 13 0 0),(62,.int .i64 c),(63,.int .i64 p63)],[(5,false,.box [.int .i64 r,.int .i64 c,.ints .arg .u64 l]),(10,false,.box [.int .i64 0,.int .i64 0,.nil]),(13,false,.box [.int .i64 r,.int .i64 c,.oref 114002]),(114002,false,.ints 43 .u64 p2)]⟩
theorem C0.Rows.Ar:C0.Rows.L0 N (M+1) r c l i k x y p63 p2=bif (Bb p63 c) then bif ((decide (0≤(Ab ((Ab (i*c))+p63))))&&(decide ((Ab ((Ab (i*c))+p63))<(length l:Int)))) then bif ((decide (0≤(Ab ((Ab (k*c))+p63))))&&(decide ((Ab ((Ab (k*c))+p63))<(length l:Int)))) then bif (Af x&&Af (getD l (toNat (Ab ((Ab (i*c))+p63))) 0)) then bif (Af y&&Af (getD l (toNat (Ab ((Ab (k*c))+p63))) 0)) then bif (Af (Cc x (getD l (toNat (Ab ((Ab (i*c))+p63))) 0))&&Af (Cc y (getD l (toNat (Ab ((Ab (k*c))+p63))) 0))) then bif ((decide (0≤(Ab ((Ab (i*c))+p63))))&&(decide ((Ab ((Ab (i*c))+p63))<(length p2:Int)))) then bif (decide ((toNat (Ab ((Ab (i*c))+p63)))<(length p2))) then bif (Af x&&Af (getD l (toNat (Ab ((Ab (k*c))+p63))) 0)) then bif (Af y&&Af (getD l (toNat (Ab ((Ab (i*c))+p63))) 0)) then bif (Af (Cc x (getD l (toNat (Ab ((Ab (k*c))+p63))) 0))&&Af (Cc y (getD l (toNat (Ab ((Ab (i*c))+p63))) 0))) then bif ((decide (0≤(Ab ((Ab (k*c))+p63))))&&(decide ((Ab ((Ab (k*c))+p63))<(length (List.set p2 (toNat (Ab ((Ab (i*c))+p63))) (Dt (Cc x (getD l (toNat (Ab ((Ab (i*c))+p63))) 0)) (Cc y (getD l (toNat (Ab ((Ab (k*c))+p63))) 0)))):Int)))) then bif (decide ((toNat (Ab ((Ab (k*c))+p63)))<(length (List.set p2 (toNat (Ab ((Ab (i*c))+p63))) (Dt (Cc x (getD l (toNat (Ab ((Ab (i*c))+p63))) 0)) (Cc y (getD l (toNat (Ab ((Ab (k*c))+p63))) 0))))))) then C0.Rows.L0 N M r c l i k x y (Ab (p63+1)) (List.set (List.set p2 (toNat (Ab ((Ab (i*c))+p63))) (Dt (Cc x (getD l (toNat (Ab ((Ab (i*c))+p63))) 0)) (Cc y (getD l (toNat (Ab ((Ab (k*c))+p63))) 0)))) (toNat (Ab ((Ab (k*c))+p63))) (E4 (Cc x (getD l (toNat (Ab ((Ab (k*c))+p63))) 0)) (Cc y (getD l (toNat (Ab ((Ab (i*c))+p63))) 0)))) else none else none else none else none else none else none else none else none else none else none else none else none else some (.tup [.agg [.int .i64 r,.int .i64 c,.ints (.own 114002 43) .u64 p2],.int .i64 0]) :=
 Eq.trans (by kernel_rfl)
 (E1 (Cw (J1 _ _) (Cw (J1 _ _) (Cw (Cy _) (Cw (Cy _) (Cw (Cy _) (Cw (J1 _ _) (Cw (Cy _) (Cw (Cy _) (Cw (Cy _) (Cw (Cy _) (Cw (J1 _ _) (Cw (Cy _) rfl rfl) rfl) rfl) rfl) rfl) rfl) rfl) rfl) rfl) rfl) rfl) rfl) rfl)
theorem C0.Rows.ev:B0 C0.Rows.E N f204 (Ak f204) [.agg [.int .i64 r,.int .i64 c,.ints .arg .u64 l],.int .i64 i,.int .i64 k,.int .u64 x,.int .u64 y]=bif ((Lq r c l) !=(0:Int)) then some (.tup [.agg [.int .i64 0,.int .i64 0,.nil],.int .i64 (Lq r c l)]) else bif (((((Bb i 0)||(Ex r i))||(Bb k 0))||(Ex r k))||(i==k)) then some (.tup [.agg [.int .i64 0,.int .i64 0,.nil],.int .i64 7]) else bif (((decide ((0:Int)≤(length l:Int)))&&(decide ((length l:Int)≤(length l:Int))))&&(decide ((length l:Int)≤Ha))) then C0.Rows.L0 N N r c l i k x y 0 (Rz (List.replicate (toNat (length l:Int)) 0) l) else none :=
 Eq.trans (by kernel_rfl)
 (E1 rfl (Ax (W4 (Bb i 0)) (Ax (W4 (Bb i 0)) (Ax (T8 (Bb i 0)) (Ax (tt8 (Bb i 0)) (Ax (tt6 (Bb i 0)) (Ax (Zt (Bb i 0) (Ex r i)) (Ax (Ab7 (Bb i 0) (Ex r i)) (Ax (Aql (Bb i 0) (Ex r i)) (Ax (Agp (Bb i 0) (Ex r i) (Bb k 0)) (Ax (Agp (Bb i 0) (Ex r i) (Bb k 0)) (Ax (Aeq (Bb i 0) (Ex r i) (Bb k 0)) (Ax (Axs (Bb i 0) (Ex r i) (Bb k 0)) (Ax (Aqm (Bb i 0) (Ex r i) (Bb k 0)) (Ax (Ane (Bb i 0) (Ex r i) (Bb k 0) (Ex r k)) (Ax (Ane (Bb i 0) (Ex r i) (Bb k 0) (Ex r k)) (Ax (Axu (Bb i 0) (Ex r i) (Bb k 0) (Ex r k)) (Ax (Axv (Bb i 0) (Ex r i) (Bb k 0) (Ex r k)) (Cw (Az7 _ _ _ _ _) rfl (Cw (A2u _ _ _) rfl rfl))))))))))))))))))))
end
abbrev _root_.Go.Proofs.S1.C0.Rows.Kn:=A8 prog 204 C0.Rows.spec
theorem C0.Rows.Ad (hk:A2 prog C0.Rows.Bc) (h:Hyp C0.Rows.E f204 C0.Rows.ts C0.Rows.pre C0.Rows.out):C0.Rows.Kn :=
 Am (A5 hk _ _ _) func204 (by kernel_rfl) (by kernel_rfl) h
def C0.G1.Bc:List (Nat × Entry):=[(204,C0.Rows.spec),(203,Aa.Db.spec)]
def C0.G1.E:Env:=Bi (Be C0.G1.Bc) (fun _=>false) (fun _=>none) (fun _=>none)
theorem C0.G1.ev (N:Nat) (r c:Int) (l:List Int) (i k:Int) (x y:Int):B0 C0.G1.E N f170 (Ak f170) [.agg [.int .i64 r,.int .i64 c,.ints .arg .u64 l],.int .i64 i,.int .i64 k,.int .u64 x,.int .u64 y]=bif (((Fb r c l).2.2.2) !=(0:Int)) then some (.tup [.agg [.int .i64 0,.int .i64 0,.nil],.int .i64 ((Fb r c l).2.2.2)]) else bif (A0 ((Fb r c l).1) ((Fb r c l).2.1) ((Fb r c l).2.2.1)&&(Al ((Fb r c l).2.2.1)&&((Af x&&Af y)&&B5 (0≤i∧i<((Fb r c l).1)∧0≤k∧k<((Fb r c l).1)∧i≠k)))) then some (.tup [.agg [.int .i64 ((Fb ((Fb r c l).1) ((Fb r c l).2.1) (Lh (toNat ((Fb r c l).1)) (toNat ((Fb r c l).2.1)) ((Fb r c l).2.2.1) (toNat i) (toNat k) x y)).1),.int .i64 ((Fb ((Fb r c l).1) ((Fb r c l).2.1) (Lh (toNat ((Fb r c l).1)) (toNat ((Fb r c l).2.1)) ((Fb r c l).2.2.1) (toNat i) (toNat k) x y)).2.1),.ints .fresh .u64 ((Fb ((Fb r c l).1) ((Fb r c l).2.1) (Lh (toNat ((Fb r c l).1)) (toNat ((Fb r c l).2.1)) ((Fb r c l).2.2.1) (toNat i) (toNat k) x y)).2.2.1)],.int .i64 ((Fb ((Fb r c l).1) ((Fb r c l).2.1) (Lh (toNat ((Fb r c l).1)) (toNat ((Fb r c l).2.1)) ((Fb r c l).2.2.1) (toNat i) (toNat k) x y)).2.2.2)]) else none:=by kernel_rfl
abbrev _root_.Go.Proofs.S1.C0.G1.Kn:=A8 prog 170 C0.G1.spec
theorem C0.G1.Ad (hk:A2 prog C0.G1.Bc) (h:Hyp C0.G1.E f170 C0.G1.ts C0.G1.pre C0.G1.out):C0.G1.Kn :=
 Am (A5 hk _ _ _) func170 (by kernel_rfl) (by kernel_rfl) h
end EqGiv
namespace EqRef12
def D4.Rows.hint:Nat→Option Ba
 | 0=>some { keep:=[1,2,3,4,5,10,11,12],objs:=[],boxes:=[5,10,11] }
 | _=>none
def D4.Rows.Bc:List (Nat × Entry):=[(152,Ah.Add.spec),(153,Ah.Mul.spec),(198,Ah.Sub.spec),(55,Ae.At.spec),(54,Ae.Gk.arg.spec)]
def D4.Rows.E:Env:=Bi (Be D4.Rows.Bc) (fun _=>false) D4.Rows.hint (fun _=>none)
section
variable (N M:Nat) (r c:Int) (l:List Int) (i k x y p12:Int) (p11:List Int)
def D4.Rows.L0:Option DV:=B8 D4.Rows.E N f199 (Ak f199) [1,1,0,1,0] [] M ⟨Ff 53 [(1,.int .i64 i),(2,.int .i64 k),(3,.int .u64 x),(4,.int .u64 y),(5,.ptr 5 0 0),(10,.ptr 10 0 0),(11,.ptr 11 0 0),(12,.int .i64 p12)],[(5,false,.box [.int .i64 r,.int .i64 c,.ints .arg .u64 l]),(10,false,.box [.int .i64 0,.int .i64 0,.nil]),(11,false,.box [.int .i64 r,.int .i64 c,.ints .arg .u64 p11])]⟩
theorem D4.Rows.Ar:D4.Rows.L0 N (M+1) r c l i k x y p12 p11=bif (Bb p12 c) then bif (En r c l i p12) then bif (En r c l k p12) then bif (Af x&&Af (Fp c l i p12)) then bif (Af y&&Af (Fp c l k p12)) then bif (Af (Cc x (Fp c l i p12))&&Af (Cc y (Fp c l k p12))) then bif (En r c p11 i p12) then bif (Af x&&Af (Fp c l k p12)) then bif (Af y&&Af (Fp c l i p12)) then bif (Af (Cc x (Fp c l k p12))&&Af (Cc y (Fp c l i p12))) then bif (En r c (List.set p11 (toNat (i*c+p12)) (Dt (Cc x (Fp c l i p12)) (Cc y (Fp c l k p12)))) k p12) then D4.Rows.L0 N M r c l i k x y (Ab (p12+1)) (List.set (List.set p11 (toNat (i*c+p12)) (Dt (Cc x (Fp c l i p12)) (Cc y (Fp c l k p12)))) (toNat (k*c+p12)) (E4 (Cc x (Fp c l k p12)) (Cc y (Fp c l i p12)))) else none else none else none else none else none else none else none else none else none else none else some (.agg [.int .i64 r,.int .i64 c,.ints .arg .u64 p11]) :=
 Eq.trans (by kernel_rfl)
 (E1 (E1 (E1 (Cw (Cy _) (Cw (Cy _) (Cw (Cy _) (Cw (Cy _) (Cw (Cy _) (Cw (Cy _) (Cw (Cy _) (Cw (Cy _) rfl rfl) rfl) rfl) rfl) rfl) rfl) rfl) rfl) rfl) rfl) rfl)
theorem D4.Rows.ev:B0 D4.Rows.E N f199 (Ak f199) [.agg [.int .i64 r,.int .i64 c,.ints .arg .u64 l],.int .i64 i,.int .i64 k,.int .u64 x,.int .u64 y] =
 D4.Rows.L0 N N r c l i k x y 0 l:=by kernel_rfl
end
abbrev _root_.Go.Proofs.S1.D4.Rows.Kn:=A8 prog 199 D4.Rows.spec
theorem D4.Rows.Ad (hk:A2 prog D4.Rows.Bc) (h:Hyp D4.Rows.E f199 D4.Rows.ts D4.Rows.pre D4.Rows.out):D4.Rows.Kn :=
 Am (A5 hk _ _ _) func199 (by kernel_rfl) (by kernel_rfl) h
def D4.G1.Bc:List (Nat × Entry):=[(14,Ae.Db.spec),(199,D4.Rows.spec)]
def D4.G1.E:Env:=Bi (Be D4.G1.Bc) (fun _=>false) (fun _=>none) (fun _=>none)
theorem D4.G1.ev (N:Nat) (r c:Int) (l:List Int) (i k:Int) (x y:Int):B0 D4.G1.E N f157 (Ak f157) [.agg [.int .i64 r,.int .i64 c,.ints .arg .u64 l],.int .i64 i,.int .i64 k,.int .u64 x,.int .u64 y]=bif (A0 r c l) then bif (A0 c r (Cx (toNat c) (toNat r) (fun j1 j2=>Fp c l j2 j1))&&(Al (Cx (toNat c) (toNat r) (fun j1 j2=>Fp c l j2 j1))&&((Af x&&Af y)&&B5 (0≤i∧i<c∧0≤k∧k<c∧i≠k)))) then bif (A0 c r (Lh (toNat c) (toNat r) (Cx (toNat c) (toNat r) (fun j1 j2=>Fp c l j2 j1)) (toNat i) (toNat k) x y)) then some (.agg [.int .i64 r,.int .i64 c,.ints .fresh .u64 (Cx (toNat r) (toNat c) (fun j1 j2=>Fp r (Lh (toNat c) (toNat r) (Cx (toNat c) (toNat r) (fun j1 j2=>Fp c l j2 j1)) (toNat i) (toNat k) x y) j2 j1))]) else none else none else none:=by kernel_rfl
abbrev _root_.Go.Proofs.S1.D4.G1.Kn:=A8 prog 157 D4.G1.spec
theorem D4.G1.Ad (hk:A2 prog D4.G1.Bc) (h:Hyp D4.G1.E f157 D4.G1.ts D4.G1.pre D4.G1.out):D4.G1.Kn :=
 Am (A5 hk _ _ _) func157 (by kernel_rfl) (by kernel_rfl) h
end EqRef12
end Go.Proofs.S1
namespace Go.Rnd
open Go.Den
theorem Aia (key:Int→Int) (x:Int) (l:List Int):(P0 key x l).length=l.length+1:=by
 induction l with
 | nil=>rfl
 | cons y t ih =>
   unfold P0
   split
   ·rw [List.length_cons,ih,List.length_cons]
   ·rfl
theorem Ah9 {key:Int→Int} {x z:Int} {l:List Int} (h:z∈P0 key x l):z=x∨z∈l:=by
 induction l with
 | nil=>exact .inl (List.mem_singleton.1 h)
 | cons y t ih =>
   unfold P0 at h
   split at h
   ·rcases List.mem_cons.1 h with h | h
    ·exact .inr (h ▸ A5v)
    ·rcases ih h with h | h
     ·exact .inl h
     ·exact .inr (A5l _ h)
   ·rcases List.mem_cons.1 h with h | h
    ·exact .inl h
    ·exact .inr h
theorem So {n:Nat} {x:List Int} (h:Jg n x=true) {j:Nat} (hj:j<x.length):0≤x.getD j 0∧x.getD j 0<(n:Int):=by
 have:=List.all_eq_true.1 h (x.getD j 0) (by rw [A4q,A4x hj]; exact List.getElem_mem hj)
 exact A46 this
theorem Jx {n:Nat} {x:List Int}:Jg n x=true↔∀ z∈x,0≤z∧z<(n:Int):=by
 unfold Jg
 rw [List.all_eq_true]
 exact forall_congr' fun z=>forall_congr' fun _=>decide_eq_true_iff
theorem Ajy (key:Int→Int) (l:List Int) (x:Int):Sa key (l++[x])=P0 key x (Sa key l):=by
 unfold Sa; rw [List.foldl_append]; rfl
theorem Vk (key:Int→Int) (l:List Int):(Sa key l).length=l.length:=by
 suffices h:∀ acc:List Int,(l.foldl (fun acc x=>P0 key x acc) acc).length=acc.length+l.length by
  have:=h []; rw [List.length_nil,A5q] at this; exact this
 induction l with
 | nil=>intro acc; rfl
 | cons y t ih=>intro acc; rw [List.foldl_cons,ih,Aia,List.length_cons]; omega
theorem Ac3 {key:Int→Int} {l:List Int} {z:Int} (h:z∈Sa key l):z∈l:=by
 suffices g:∀ acc:List Int,z∈l.foldl (fun acc x=>P0 key x acc) acc→z∈acc∨z∈l by
  rcases g [] h with h | h
  ·cases h
  ·exact h
 clear h
 induction l with
 | nil=>intro acc h; exact .inl h
 | cons y t ih =>
   intro acc h
   rcases ih _ h with h | h
   ·rcases Ah9 h with h | h
    ·exact .inr (h ▸ A5v)
    ·exact .inl h
   ·exact .inr (A5l _ h)
theorem Anj (A B:List Int) (y v:Int):((A++y::v::B).set (A.length+1) y).set A.length v=A++v::y::B:=by
 induction A with
 | nil=>rfl
 | cons a A ih =>
   rw [List.length_cons,List.cons_append,List.set_cons_succ,List.set_cons_succ,ih]
   rfl
theorem Aif (A B:List Int) (v:Int):(A++v::B).getD A.length 0=v:=by
 rw [A4q,A5u (A5a _),Nat.sub_self]; rfl
def rgF (n:Nat) (l:List Int) (i k:Nat) (c s:Int) (a b:Nat):Int :=
 if a=i then Dt (Cc c (Fp (n:Int) l (i:Int) (b:Int))) (Cc s (Fp (n:Int) l (k:Int) (b:Int)))
 else if a=k then E4 (Cc c (Fp (n:Int) l (k:Int) (b:Int))) (Cc s (Fp (n:Int) l (i:Int) (b:Int))) else Fp (n:Int) l (a:Int) (b:Int)
def rgS (R n:Nat) (l:List Int) (i k:Nat) (c s:Int) (j:Nat):List Int:=Cx R n fun a b=>if b<j then rgF n l i k c s a b else Fp (n:Int) l (a:Int) (b:Int)
theorem Ahe {R n:Nat} {l:List Int} (h:l.length=R*n) (i k:Nat) (c s:Int):rgS R n l i k c s 0=l:=by
 unfold rgS
 conv=>rhs; rw [← Ts h]
 exact Eu fun a b _ _=>A42 (by omega)
theorem Al3 (R n:Nat) (l:List Int) (i k:Nat) (c s:Int):rgS R n l i k c s n=Lh R n l i k c s:=by
 unfold rgS Lh
 exact Eu fun a b _ hb=>A43 hb
theorem Ae1 (R n:Nat) (l:List Int) (i k:Nat) (c s:Int) (j:Nat):(rgS R n l i k c s j).length=R*n:=Cl _ _ _
theorem Ahf {R n:Nat} {l:List Int} {i k:Nat} {c s:Int} {j:Nat} (hj:j<n) (hik:i≠k) :
 ((rgS R n l i k c s j).set (i*n+j) (Dt (Cc c (Fp (n:Int) l (i:Int) (j:Int))) (Cc s (Fp (n:Int) l (k:Int) (j:Int))))).set (k*n+j)
   (E4 (Cc c (Fp (n:Int) l (k:Int) (j:Int))) (Cc s (Fp (n:Int) l (i:Int) (j:Int))))=rgS R n l i k c s (j+1):=by
 unfold rgS
 rw [Qr hj,Qr hj]
 refine Eu fun a b _ _=>?_
 by_cases hb:b=j
 ·subst hb
  by_cases h1:a=k
  ·subst h1
   rw [A43 ⟨rfl,rfl⟩,A43 (Nat.lt_succ_self _)]
   unfold rgF
   rw [A42 (Ne.symm hik),A43 rfl]
  ·rw [A42 (fun h=>h1 h.1),A43 (Nat.lt_succ_self _)]
   by_cases h2:a=i
   ·subst h2
    rw [A43 ⟨rfl,rfl⟩]
    unfold rgF
    rw [A43 rfl]
   ·rw [A42 (fun h=>h2 h.1),A42 (Nat.lt_irrefl _)]
    unfold rgF
    rw [A42 h2,A42 h1]
 ·rw [A42 (fun h=>hb h.2),A42 (fun h=>hb h.2)]
  by_cases h:b<j
  ·rw [A43 h,A43 (by omega)]
  ·rw [A42 h,A42 (by omega)]
theorem Aiy {R n:Nat} {l:List Int} (hl:Al l=true) (i k:Nat) (c s:Int):Al (Oy R n l i k c s)=true:=Mk fun a b=>by
 split
 ·exact Nm (Ew _ _) (Ew _ _)
 ·split
  ·exact Pw (Ew _ _) (Ew _ _)
  ·exact Kq hl
theorem Ad2 {R n:Nat} {l:List Int} {i k:Nat} (hi:i<n) (hk:k<n) (c s:Int) :
 (Cx R n fun a b=>Fp (R:Int) (Lh n R (Cx n R fun a b=>Fp (n:Int) l (b:Int) (a:Int)) i k c s) (b:Int) (a:Int))=Oy R n l i k c s:=by
 unfold Oy
 refine Eu fun a b ha hb=>?_
 unfold Lh
 rw [Tt hb ha]
 by_cases h1:b=i
 ·rw [A43 h1,A43 h1,Tt hi ha,Tt hk ha]
 ·rw [A42 h1,A42 h1]
  by_cases h2:b=k
  ·rw [A43 h2,A43 h2,Tt hi ha,Tt hk ha]
  ·rw [A42 h2,A42 h2,Tt hb ha]
theorem Apl {l x:List Int} (h:l.length=x.length):Rz l x=x:=by
 unfold Rz
 rw [h,List.take_length,A4u (by omega),List.append_nil]
def Iu (R n:Nat) (s:List Int × List Int × Bool):Prop:=(s.1.length=R*n∧Al s.1=true)∧s.2.1.length=n*n∧Al s.2.1=true
theorem Ad3 (R n:Nat) (l:List Int) (i k:Nat) (c s:Int):(Oy R n l i k c s).length=R*n:=Cl _ _ _
theorem Iu.Mr {be:List Int→List Int→Int→Bool} {R n:Nat} {low:Int} {p q:Nat} {s:List Int × List Int × Bool} (h:Iu R n s):Iu R n (Mr be R n low p q s):=by
 unfold Go.Rnd.Mr
 split
 ·exact h
 ·exact ⟨⟨Ad3 ..,Aiy h.1.2 ..⟩,Ad3 ..,Aiy h.2.2 ..⟩
theorem Iu.O6 {be:List Int→List Int→Int→Bool} {R n:Nat} {low:Int} {p:Nat}:∀ (d q:Nat) {s:List Int × List Int × Bool},Iu R n s→Iu R n (O6 be R n low p d q s)
 | 0,_,_,h=>h
 | d+1,q,_,h=>Iu.O6 d (q+1) h.Mr
theorem Iu.Mv {be:List Int→List Int→Int→Bool} {R n:Nat} {low:Int}:∀ (d p:Nat) {s:List Int × List Int × Bool},Iu R n s→Iu R n (Mv be R n low d p s)
 | 0,_,_,h=>h
 | d+1,p,_,h=>Iu.Mv d (p+1) (Iu.O6 _ _ h)
theorem Iu.Ej {R n:Nat} {low:Int}:∀ (m:Nat) {w v:List Int},Iu R n (w,v,true)→Iu R n ((Ej R n low m w v).1,(Ej R n low m w v).2.1,true)
 | 0,_,_,h=>h
 | m+1,w,v,h=>by
   have g:Iu R n (Js R n low w v):=Iu.Mv n 0 h
   unfold Go.Rnd.Ej
   split
   ·exact ⟨g.1,g.2⟩
   ·exact Iu.Ej m ⟨g.1,g.2⟩
theorem Xd {R n:Nat} {low:Int}:∀ (m:Nat) (w v:List Int),(Ej R n low m w v).2.2=0∨(Ej R n low m w v).2.2=6
 | 0,_,_=>.inr rfl
 | m+1,w,v=>by
   unfold Go.Rnd.Ej
   split
   ·exact .inl rfl
   ·exact Xd m _ _
theorem Ga (R n:Nat) (l ps:List Int):(Cr R n l ps).length=R*n:=Cl _ _ _
theorem Kw {R n:Nat} {l ps:List Int} (h:Al l=true):Al (Cr R n l ps)=true:=Mk fun _ _=>Kq h
theorem On (R n:Nat) (l:List Int):(Ca R n l).length=n:=by unfold Ca; rw [A5m,A5j]
theorem Xp (R n:Nat) (l:List Int):Al (Ca R n l)=true:=Ab2 fun _=>J8 _
theorem Jq (l:List Int) (k:Int):(A9 l k).length=l.length:=by unfold A9; rw [A5m]
theorem Tb {l:List Int} {k:Int} (h:Al l=true):Al (A9 l k)=true:=Aq.2 fun x hx=>by
 obtain ⟨y,hy,rfl⟩:=List.mem_map.1 hx
 exact G8 (Aq.1 h y hy)
theorem Qc (n:Nat):(K9 n).length=n:=by unfold K9; rw [A5m,A5j]
theorem Zc (n:Nat):Jg n (K9 n)=true:=Jx.2 fun z hz=>by
 obtain ⟨i,hi,rfl⟩:=List.mem_map.1 hz
 have:=List.mem_range.1 hi
 omega
theorem Ac2 (l x:List Int):(E5 l x).length=x.length:=by unfold E5; rw [List.length_reverse,Vk]
theorem Aq3 {n:Nat} {l x:List Int} (h:Jg n x=true):Jg n (E5 l x)=true:=Jx.2 fun z hz=>Jx.1 h z (Ac3 (List.mem_reverse.1 hz))
theorem Av9 (i k:Int):Af (N0 i k)=true:=by
 unfold N0
 split
 ·exact Ae8
 ·exact Cm (n:=0) (by decide)
end Go.Rnd
namespace Go.Proofs.S1
open Go Go.Den Go.Rnd Go.Proofs
open EqGiv EqRef12
theorem Uu {R C i j:Nat} (r6:R≤6) (c6:C≤6) (hi:i<R) (hj:j<C):Ab (Ab ((i:Int)*(C:Int))+(j:Int))=((i*C+j:Nat):Int)∧i*C+j<R*C:=by
 have h:=Il hi hj
 have:R*C≤36:=A5c r6 c6
 have e:(i:Int)*(C:Int)=((i*C:Nat):Int):=(A41 _ _).symm
 refine ⟨?_,h⟩
 have e0:Ab ((i*C:Nat):Int)=((i*C:Nat):Int):=An (by omega) (by omega)
 rw [e,e0,An (by omega) (by omega)]
 omega
theorem Apc {R C:Nat} {l:List Int} {i k:Nat} {x y:Int} (r6:R≤6) (c6:C≤6) (hl:l.length=R*C) (al:Al l=true) (hx:Af x=true) (hy:Af y=true) (hi:i<R) (hk:k<R) (hik:i≠k) (N:Nat) :
 ∀ (d j F:Nat),j+d=C→d<F→C0.Rows.L0 N F (R:Int) (C:Int) l (i:Int) (k:Int) x y (j:Int) (rgS R C l i k x y j)=some (.tup [.agg [.int .i64 (R:Int),.int .i64 (C:Int),.ints (.own 114002 tB) .u64 (Lh R C l i k x y)],.int .i64 (0:Int)]):=by
 intro d
 induction d with
 | zero =>
   intro j F hj hF
   obtain ⟨F,rfl⟩:∃ G,F=G+1:=⟨F-1,by omega⟩
   obtain rfl:j=C:=by omega
   rw [C0.Rows.Ar,Av,A4l (by omega),A4k,Al3]
 | succ d ih =>
   intro j F hj hF
   obtain ⟨F,rfl⟩:∃ G,F=G+1:=⟨F-1,by omega⟩
   obtain ⟨e1,b1⟩:=Uu r6 c6 hi (show j<C by omega)
   obtain ⟨e2,b2⟩:=Uu r6 c6 hk (show j<C by omega)
   have a1:getD l (i*C+j) 0=Fp (C:Int) l (i:Int) (j:Int):=by unfold Fp; rw [Iz]
   have a2:getD l (k*C+j) 0=Fp (C:Int) l (k:Int) (j:Int):=by unfold Fp; rw [Iz]
   have g:∀ n:Nat,n<R*C→(decide ((0:Int)≤(n:Int))&&decide ((n:Int)<((R*C:Nat):Int)))=true:=fun n hn=>by rw [A4h (by omega),A4h (by omega)]; rfl
   rw [C0.Rows.Ar,Av,A4h (by omega),A4g,e1,e2,A4i,A4i,List.length_set,Ae1,hl,a1,a2,g _ b1,g _ b2,A4g,A4g,hx,hy,Kq al,Kq al,A4m,A4g,A4g,Ew,Ew,A4m,A4g,A4g,
    A4h b1,A4h b2,A4g,A4g,A4g,Ew,Ew,A4m,A4g,A4g,A4g,Ahf (show j<C by omega) hik,An (by omega) (by omega)]
   exact ih (j+1) F (by omega) (by omega)
theorem C0.Rows.known:C0.Rows.Kn:=C0.Rows.Ad (.cons Aa.Check.known (.cons Ag.Add.known (.cons Ag.Mul.known (.cons Ag.Sub.known .nil)))) fun r c l i k x y hp=>by
 obtain ⟨hr,hp⟩:=Ac.1 (show (A0 r c l&&(Al l&&((Af x&&Af y)&&B5 (0≤i∧i<r∧0≤k∧k<r∧i≠k))))=true from hp)
 obtain ⟨al,hp⟩:=Ac.1 hp
 obtain ⟨hxy,hp⟩:=Ac.1 hp
 obtain ⟨hx,hy⟩:=Ac.1 hxy
 obtain ⟨i0,i1,k0,k1,hik⟩:=Aq.1 hp
 obtain ⟨R,C,rfl,rfl,r6,c6,hl⟩:=Co hr
 obtain ⟨i,rfl⟩:∃ j:Nat,i=j:=⟨i.toNat,by omega⟩
 obtain ⟨k,rfl⟩:∃ j:Nat,k=j:=⟨k.toNat,by omega⟩
 have hlen:l.length≤36:=by rw [hl]; exact A5c r6 c6
 refine ⟨C+1,.tup [.agg [.int .i64 (R:Int),.int .i64 (C:Int),.ints (.own 114002 tB) .u64 (Lh R C l i k x y)],.int .i64 (0:Int)],[114002],?_,?_⟩
 ·have ec:Lq (R:Int) (C:Int) l=0:=by unfold Lq; rw [hr]; rfl
  have hn:List.replicate (toNat ((l.length:Nat):Int)) (0:Int)=List.replicate l.length 0:=by rw [A4i]
  rw [C0.Rows.ev,ec,show ((0:Int) !=0)=false from rfl,A4k,Av,Av,Fk,Fk,A4l (by omega),A4l (by omega),A4l (by omega),A4l (by omega),
   show (((i:Int))==(k:Int))=false from by simpa using (fun h=>hik h)]
  simp only [Bool.or_self,A4k]
  rw [A4h (by omega),A4h (Int.le_refl _),A4h (by unfold Ha; omega),A4m,A4m,A4g,hn,Apl (List.length_replicate ..)]
  have:=Apc r6 c6 hl al hx hy (by omega) (by omega) (i:=i) (k:=k) (fun h=>hik (by omega)) (C+1) C 0 (C+1) (by omega) (by omega)
  rw [Ahe hl] at this
  exact this
 ·exact Wk.Hm (.cons (Uk (List.mem_singleton.2 rfl)) (.cons .int .nil))
theorem C0.G1.known:C0.G1.Kn:=C0.G1.Ad (.cons C0.Rows.known (.cons Aa.Db.known .nil)) fun r c l i k x y hp=>by
 obtain ⟨hr,hp⟩:=Ac.1 (show (A0 r c l&&(Al l&&((Af x&&Af y)&&B5 (0≤i∧i<c∧0≤k∧k<c∧i≠k))))=true from hp)
 obtain ⟨al,hp⟩:=Ac.1 hp
 obtain ⟨hxy,hp⟩:=Ac.1 hp
 obtain ⟨i0,i1,k0,k1,hik⟩:=Aq.1 hp
 obtain ⟨R,C,rfl,rfl,r6,c6,hl⟩:=Co hr
 obtain ⟨i,rfl⟩:∃ j:Nat,i=j:=⟨i.toNat,by omega⟩
 obtain ⟨k,rfl⟩:∃ j:Nat,k=j:=⟨k.toNat,by omega⟩
 have t1:Fb (R:Int) (C:Int) l=((C:Int),(R:Int),Cx C R fun a b=>Fp (C:Int) l (b:Int) (a:Int),0):=by
  unfold Fb; rw [A43 hr,A4i,A4i]
 have r2:A0 (C:Int) (R:Int) (Cx C R fun a b=>Fp (C:Int) l (b:Int) (a:Int))=true:=Rh _ c6 r6
 have r3:A0 (C:Int) (R:Int) (Lh C R (Cx C R fun a b=>Fp (C:Int) l (b:Int) (a:Int)) i k x y)=true:=Rh _ c6 r6
 have t2:Fb (C:Int) (R:Int) (Lh C R (Cx C R fun a b=>Fp (C:Int) l (b:Int) (a:Int)) i k x y)=((R:Int),(C:Int),Oy R C l i k x y,0):=by
  unfold Fb; rw [A43 r3,A4i,A4i,Ad2 (by omega) (by omega)]
 refine ⟨0,.tup [.agg [.int .i64 (R:Int),.int .i64 (C:Int),.ints .fresh .u64 (Oy R C l i k x y)],.int .i64 (0:Int)],[],?_,?_⟩
 ·rw [C0.G1.ev,t1,show ((0:Int) !=0)=false from rfl,A4k,r2,show Al (Cx C R fun a b=>Fp (C:Int) l (b:Int) (a:Int))=true from Mk fun a b=>Kq al,hxy,show B5 (0≤(i:Int)∧(i:Int)<(C:Int)∧0≤(k:Int)∧(k:Int)<(C:Int)∧(i:Int)≠(k:Int))=true from Aq.2 ⟨i0,i1,k0,k1,hik⟩]
  simp only [A4m,A4g,A4i]
  rw [t2]
 ·exact Wk.Hm (.cons (Wk.F7 (.cons .int (.cons .int (.cons (.fresh _ _) .nil)))) (.cons .int .nil))
theorem Acb {R C:Nat} {l:List Int} {i k:Nat} {x y:Int} (r6:R≤6) (c6:C≤6) (hl:l.length=R*C) (al:Al l=true) (hx:Af x=true) (hy:Af y=true) (hi:i<R) (hk:k<R) (hik:i≠k) (N:Nat) :
 ∀ (d j F:Nat),j+d=C→d<F→D4.Rows.L0 N F (R:Int) (C:Int) l (i:Int) (k:Int) x y (j:Int) (rgS R C l i k x y j)=some (.agg [.int .i64 (R:Int),.int .i64 (C:Int),.ints .arg .u64 (Lh R C l i k x y)]):=by
 intro d
 induction d with
 | zero =>
   intro j F hj hF
   obtain ⟨F,rfl⟩:∃ G,F=G+1:=⟨F-1,by omega⟩
   obtain rfl:j=C:=by omega
   rw [D4.Rows.Ar,Av,A4l (by omega),A4k,Al3]
 | succ d ih =>
   intro j F hj hF
   obtain ⟨F,rfl⟩:∃ G,F=G+1:=⟨F-1,by omega⟩
   have hjC:j<C:=by omega
   rw [D4.Rows.Ar,Av,A4h (by omega),A4g,Gy r6 c6 hl hi hjC,A4g,Gy r6 c6 hl hk hjC,A4g,hx,hy,Kq al,Kq al,A4m,A4g,A4g,Ew,Ew,A4m,A4g,Gy r6 c6 (Ae1 _ _ _ _ _ _ _ _) hi hjC,A4g,A4g,A4g,Ew,Ew,A4m,A4g,
    Iz,Iz,Gy r6 c6 (by rw [List.length_set,Ae1]) hk hjC,A4g,Ahf hjC hik,An (by omega) (by omega)]
   exact ih (j+1) F (by omega) (by omega)
theorem D4.Rows.known:D4.Rows.Kn:=D4.Rows.Ad (.cons Ah.Add.known (.cons Ah.Mul.known (.cons Ah.Sub.known (.cons Ae.At.known (.cons Ae.Gk.arg.known .nil))))) fun r c l i k x y hp=>by
 obtain ⟨hr,hp⟩:=Ac.1 (show (A0 r c l&&(Al l&&((Af x&&Af y)&&B5 (0≤i∧i<r∧0≤k∧k<r∧i≠k))))=true from hp)
 obtain ⟨al,hp⟩:=Ac.1 hp
 obtain ⟨hxy,hp⟩:=Ac.1 hp
 obtain ⟨hx,hy⟩:=Ac.1 hxy
 obtain ⟨i0,i1,k0,k1,hik⟩:=Aq.1 hp
 obtain ⟨R,C,rfl,rfl,r6,c6,hl⟩:=Co hr
 obtain ⟨i,rfl⟩:∃ j:Nat,i=j:=⟨i.toNat,by omega⟩
 obtain ⟨k,rfl⟩:∃ j:Nat,k=j:=⟨k.toNat,by omega⟩
 refine ⟨C+1,.agg [.int .i64 (R:Int),.int .i64 (C:Int),.ints .arg .u64 (Lh R C l i k x y)],[],?_,?_⟩
 ·rw [D4.Rows.ev]
  have:=Acb r6 c6 hl al hx hy (by omega) (by omega) (fun h=>hik (by omega)) (C+1) (i:=i) (k:=k) C 0 (C+1) (by omega) (by omega)
  rw [Ahe hl] at this
  exact this
 ·exact Wk.F7 (.cons .int (.cons .int (.cons .N1 .nil)))
theorem D4.G1.known:D4.G1.Kn:=D4.G1.Ad (.cons Ae.Db.known (.cons D4.Rows.known .nil)) fun r c l i k x y hp=>by
 obtain ⟨hr,hp⟩:=Ac.1 (show (A0 r c l&&(Al l&&((Af x&&Af y)&&B5 (0≤i∧i<c∧0≤k∧k<c∧i≠k))))=true from hp)
 obtain ⟨al,hp⟩:=Ac.1 hp
 obtain ⟨hxy,hp⟩:=Ac.1 hp
 obtain ⟨i0,i1,k0,k1,hik⟩:=Aq.1 hp
 obtain ⟨R,C,rfl,rfl,r6,c6,hl⟩:=Co hr
 obtain ⟨i,rfl⟩:∃ j:Nat,i=j:=⟨i.toNat,by omega⟩
 obtain ⟨k,rfl⟩:∃ j:Nat,k=j:=⟨k.toNat,by omega⟩
 have r2:A0 (C:Int) (R:Int) (Cx C R fun a b=>Fp (C:Int) l (b:Int) (a:Int))=true:=Rh _ c6 r6
 have r3:A0 (C:Int) (R:Int) (Lh C R (Cx C R fun a b=>Fp (C:Int) l (b:Int) (a:Int)) i k x y)=true:=Rh _ c6 r6
 refine ⟨0,.agg [.int .i64 (R:Int),.int .i64 (C:Int),.ints .fresh .u64 (Oy R C l i k x y)],[],?_,?_⟩
 ·rw [D4.G1.ev,hr,A4g]
  simp only [A4i]
  rw [r2,show Al (Cx C R fun a b=>Fp (C:Int) l (b:Int) (a:Int))=true from Mk fun a b=>Kq al,hxy,show B5 (0≤(i:Int)∧(i:Int)<(C:Int)∧0≤(k:Int)∧(k:Int)<(C:Int)∧(i:Int)≠(k:Int))=true from Aq.2 ⟨i0,i1,k0,k1,hik⟩,A4m,A4m,A4m,A4g,r3,A4g,Ad2 (by omega) (by omega)]
 ·exact Wk.F7 (.cons .int (.cons .int (.cons (.fresh _ _) .nil)))
namespace EqSort
def B4.D8.Bc:List (Nat × Entry):=[(131,compare.Order.spec)]
def B4.D8.E:Env:=Bi (Be B4.D8.Bc) (fun _=>false) (fun _=>none) (fun _=>none)
theorem B4.D8.ev (N:Nat) (i k:Int) (l:List Int):B0 B4.D8.E N f130 (Ak f130) [.int .i64 i,.int .i64 k,.cellp [.ints .arg .u64 l]]=bif ((decide (0≤k))&&(decide (k<(length l:Int)))) then bif ((decide (0≤i))&&(decide (i<(length l:Int)))) then bif (Af (getD l (toNat k) 0)&&Af (getD l (toNat i) 0)) then some (.int .i64 (Hq (getD l (toNat k) 0) (getD l (toNat i) 0))) else none else none else none :=
 Eq.trans (by kernel_rfl)
 (Cw (J1 _ _) (Cw (J1 _ _) (Cw (Cy _) rfl rfl) rfl) rfl)
abbrev _root_.Go.Proofs.S1.B4.D8.Kn:=A8 prog 130 B4.D8.spec
theorem B4.D8.Ad (hk:A2 prog B4.D8.Bc) (h:Hyp B4.D8.E f130 B4.D8.ts B4.D8.pre B4.D8.out):B4.D8.Kn :=
 Am (A5 hk _ _ _) func130 (by kernel_rfl) (by kernel_rfl) h
def Bl.Ap.hint:Nat→Option Ba
 | 0=>some { keep:=[0,1,2,3,8],objs:=[(0,0,100000,.ints 3 .i64 [])],boxes:=[] }
 | 2=>some { keep:=[0,1,2,3,8,9],objs:=[(0,0,100000,.ints 3 .i64 [])],boxes:=[] }
 | _=>none
def Bl.Ap.Bc:List (Nat × Entry):=[(130,B4.D8.spec)]
def Bl.Ap.E:Env:=Abp (Be Bl.Ap.Bc) (fun _=>false) Bl.Ap.hint (fun _=>none) (fun _=>none) 1
section
variable (N:Nat) (x:List Int) (M0 M:Nat) (a b:Int) (l:List Int) (p9:Int) (p0:List Int) (p8_1 p8:Int) (p0_1:List Int)
def Bl.Ap.L0:Option (List Int):=We Bl.Ap.E N f205 (Ak f205) tI .i64 [1,0] [] M ⟨Ff 53 [(0,.oref 100000),(1,.int .i64 a),(2,.int .i64 b),(3,.fn 130 [] [.cellp [.ints .arg .u64 l]]),(8,.int .i64 p8)],[(100000,false,.ints 3 .i64 p0_1)]⟩
def Bl.Ap.L1:Option (List Int):=We Bl.Ap.E N f205 (Ak f205) tI .i64 [1,0,0,1,0,0,1,0] [M0] M ⟨Ff 53 [(0,.oref 100000),(1,.int .i64 a),(2,.int .i64 b),(3,.fn 130 [] [.cellp [.ints .arg .u64 l]]),(8,.int .i64 p8_1),(9,.int .i64 p9)],[(100000,false,.ints 3 .i64 p0)]⟩
theorem Bl.Ap.Ar:Bl.Ap.L0 N (M+1) a b l p8 p0_1=bif (Bb p8 b) then Bl.Ap.L1 N M N a b l p8 p0_1 p8 else some p0_1:=by kernel_rfl
theorem Bl.Ap.Cd:Bl.Ap.L1 N M0 (M+1) a b l p9 p0 p8_1=bif ((!(Bb a p9))||((decide (0≤p9))&&(decide (p9<(length p0:Int))))) then bif ((!(Bb a p9))||(decide ((toNat p9)<(length p0)))) then bif ((!(Bb a p9))||((decide (0≤(Ab (p9-1))))&&(decide ((Ab (p9-1))<(length p0:Int))))) then bif ((!(Bb a p9))||(decide ((toNat (Ab (p9-1)))<(length p0)))) then bif ((!(Bb a p9))||(Bs l&&B5 (0≤(getD p0 (toNat p9) 0)∧(getD p0 (toNat p9) 0)<((length l:Nat):Int)∧0≤(getD p0 (toNat (Ab (p9-1))) 0)∧(getD p0 (toNat (Ab (p9-1))) 0)<((length l:Nat):Int)))) then bif ((Bb a p9)&&(Bb (Hq (Ll l (getD p0 (toNat (Ab (p9-1))) 0)) (Ll l (getD p0 (toNat p9) 0))) 0)) then bif ((decide (0≤(Ab (p9-1))))&&(decide ((Ab (p9-1))<(length p0:Int)))) then bif (decide ((toNat (Ab (p9-1)))<(length p0))) then bif ((decide (0≤p9))&&(decide (p9<(length p0:Int)))) then bif (decide ((toNat p9)<(length p0))) then bif ((decide (0≤p9))&&(decide (p9<(length p0:Int)))) then bif (decide ((toNat p9)<(length p0))) then bif ((decide (0≤(Ab (p9-1))))&&(decide ((Ab (p9-1))<(length (List.set p0 (toNat p9) (getD p0 (toNat (Ab (p9-1))) 0)):Int)))) then bif (decide ((toNat (Ab (p9-1)))<(length (List.set p0 (toNat p9) (getD p0 (toNat (Ab (p9-1))) 0))))) then Bl.Ap.L1 N M0 M a b l (Ab (p9-1)) (List.set (List.set p0 (toNat p9) (getD p0 (toNat (Ab (p9-1))) 0)) (toNat (Ab (p9-1))) (getD p0 (toNat p9) 0)) p8_1 else none else none else none else none else none else none else none else none else Bl.Ap.L0 N M0 a b l (Ab (p8_1+1)) p0 else none else none else none else none else none :=
 Eq.trans (by kernel_rfl)
 (Ax (Ags (Bb a p9)) (Ax (Ags (Bb a p9)) (Ax (Ags (Bb a p9)) (Cw (Az3 _ _ _) (Cw (Az4 _ _) (Ax (Ags (Bb a p9)) (Ax (Ags (Bb a p9)) (Ax (Az5 (Bb a p9)) (Cw (Az3 _ _ _) (Cw (Az4 _ _) (Cw (A2s _ _) (Ax (Az5 (Bb a p9)) (Ax (A2t (Bb a p9)) (Cw (tt1 _ _) (Cw (J1 _ _) (Cw (Cy _) (Cw (J1 _ _) (Cw (Cy _) (Cw (J1 _ _) (Cw (Cy _) (Cw (J1 _ _) (Cw (Cy _) rfl rfl) rfl) rfl) rfl) rfl) rfl) rfl) rfl) rfl))) rfl) rfl) rfl)))) rfl) rfl))))
theorem Bl.Ap.ev:wrD Bl.Ap.E N f205 (Ak f205) tI .i64 x [.int .i64 a,.int .i64 b,.fn 130 [] [.cellp [.ints .arg .u64 l]]] =
 Bl.Ap.L0 N N a b l (Ab (a+1)) x:=by kernel_rfl
end
abbrev _root_.Go.Proofs.S1.Bl.Ap.Kn:Prop:=P4 prog 205 (Agj tI .i64 Bl.Ap.ts Bl.Ap.pre Bl.Ap.Aaj)
theorem Bl.Ap.Ad (hk:A2 prog Bl.Ap.Bc) (h:∀ (x:List Int) (a b:Int) (l:List Int),Bl.Ap.pre [.l x,.i a,.i b,.l l]=true→∃ N,wrD Bl.Ap.E N f205 (Ak f205) tI .i64 x [.int .i64 a,.int .i64 b,.fn 130 [] [.cellp [.ints .arg .u64 l]]]=some (Bl.Ap.Aaj [.l x,.i a,.i b,.l l])):Bl.Ap.Kn:=by
 refine Zq (E:=Bl.Ap.E) (Zk hk Axl _ _ _ _) (by decide) func205 (show f205.body=some (Ak f205) by kernel_rfl) (by kernel_rfl) (Mf func205 (by kernel_rfl) (show f205.body=some (Ak f205) by kernel_rfl)) fun x ats dvs he hp=>?_
 obtain ⟨a,_,_,rfl,rfl,he0⟩:=he.Adu
 obtain ⟨b,_,_,rfl,rfl,he1⟩:=he0.Adu
 obtain ⟨_,_,_,_,rfl,rfl,hs2,he2⟩:=he1.Ak0
 obtain ⟨_,_,_,_,rfl,rfl,hs3,he3⟩:=hs2.Ak5
 obtain ⟨l,_,_,rfl,rfl,he4⟩:=hs3.Aq7
 obtain ⟨rfl,rfl⟩:=he4.Kp
 obtain ⟨rfl,rfl⟩:=he3.Kp
 obtain ⟨rfl,rfl⟩:=he2.Kp
 exact h x a b l hp
def Bl.A4.hint:Nat→Option Ba
 | 0=>some { keep:=[0,1,2,6,7,8],objs:=[(0,0,100000,.ints 3 .i64 [])],boxes:=[] }
 | 2=>some { keep:=[0,1,2,6],objs:=[(0,0,100000,.ints 3 .i64 [])],boxes:=[] }
 | 4=>some { keep:=[0,1,2,6,7,8],objs:=[(0,0,100000,.ints 3 .i64 [])],boxes:=[] }
 | _=>none
def Bl.A4.Bc:List (Nat × Entry):=[]
def Bl.A4.E:Env:=Abp (Be Bl.A4.Bc) (fun _=>false) Bl.A4.hint (fun _=>none) (wr1 205 (Agj tI .i64 Bl.Ap.ts Bl.Ap.pre Bl.Ap.Aaj)) 1
section
variable (N:Nat) (x:List Int) (M0 M:Nat) (n:Int) (l:List Int) (p6_1 p8_1:Int) (p0_2:List Int) (p6:Int) (p0_1:List Int) (p7 p8:Int) (p0:List Int)
def Bl.A4.L0:Option (List Int):=We Bl.A4.E N f171 (Ak f171) tI .i64 [1,1,0,0] [] M ⟨Ff 63 [(0,.oref 100000),(1,.int .i64 n),(2,.fn 130 [] [.cellp [.ints .arg .u64 l]]),(6,.int .i64 20),(7,.int .i64 p7),(8,.int .i64 p8)],[(100000,false,.ints 3 .i64 p0)]⟩
def Bl.A4.L1:Option (List Int):=We Bl.A4.E N f171 (Ak f171) tI .i64 [1,1,1,1,0] [] M ⟨Ff 63 [(0,.oref 100000),(1,.int .i64 n),(2,.fn 130 [] [.cellp [.ints .arg .u64 l]]),(6,.int .i64 p6)],[(100000,false,.ints 3 .i64 p0_1)]⟩
def Bl.A4.L2:Option (List Int):=We Bl.A4.E N f171 (Ak f171) tI .i64 [1,1,1,1,0,0,1,0,1,0,0] [M0] M ⟨Ff 63 [(0,.oref 100000),(1,.int .i64 n),(2,.fn 130 [] [.cellp [.ints .arg .u64 l]]),(6,.int .i64 p6_1),(7,.int .i64 0),(8,.int .i64 p8_1)],[(100000,false,.ints 3 .i64 p0_2)]⟩
theorem Bl.A4.Ar:Bl.A4.L0 N (M+1) n l p7 p8 p0=bif (Ex p8 n) then bif (Bs l&&B5 (Jg (length l) p0=true∧length p0≤6∧p7=0∧p8=((length p0:Nat):Int))) then Bl.A4.L0 N M n l p8 (Ab (p8+20)) (E5 l p0) else none else bif (Bs l&&B5 (Jg (length l) p0=true∧length p0≤6∧p7=0∧n=((length p0:Nat):Int))) then Bl.A4.L1 N N n l 20 (E5 l p0) else none:=by kernel_rfl
theorem Bl.A4.Cd:Bl.A4.L1 N (M+1) n l p6 p0_1=bif (Bb p6 n) then Bl.A4.L2 N M N n l p6 (Ab ((2:Int)*p6)) p0_1 else some p0_1:=by kernel_rfl
theorem Bl.A4.ev:wrD Bl.A4.E N f171 (Ak f171) tI .i64 x [.int .i64 n,.fn 130 [] [.cellp [.ints .arg .u64 l]]] =
 Bl.A4.L0 N N n l 0 20 x:=by kernel_rfl
end
abbrev _root_.Go.Proofs.S1.Bl.A4.Kn:Prop:=P4 prog 171 (Agj tI .i64 Bl.A4.ts Bl.A4.pre Bl.A4.Aaj)
theorem Bl.A4.Ad (hk:A2 prog Bl.A4.Bc) (hw:Bl.Ap.Kn) (h:∀ (x:List Int) (n:Int) (l:List Int),Bl.A4.pre [.l x,.i n,.l l]=true→∃ N,wrD Bl.A4.E N f171 (Ak f171) tI .i64 x [.int .i64 n,.fn 130 [] [.cellp [.ints .arg .u64 l]]]=some (Bl.A4.Aaj [.l x,.i n,.l l])):Bl.A4.Kn:=by
 refine Zq (E:=Bl.A4.E) (Zk hk (Ajk hw) _ _ _ _) (by decide) func171 (show f171.body=some (Ak f171) by kernel_rfl) (by kernel_rfl) (Mf func171 (by kernel_rfl) (show f171.body=some (Ak f171) by kernel_rfl)) fun x ats dvs he hp=>?_
 obtain ⟨n,_,_,rfl,rfl,he0⟩:=he.Adu
 obtain ⟨_,_,_,_,rfl,rfl,hs1,he1⟩:=he0.Ak0
 obtain ⟨_,_,_,_,rfl,rfl,hs2,he2⟩:=hs1.Ak5
 obtain ⟨l,_,_,rfl,rfl,he3⟩:=hs2.Aq7
 obtain ⟨rfl,rfl⟩:=he3.Kp
 obtain ⟨rfl,rfl⟩:=he2.Kp
 obtain ⟨rfl,rfl⟩:=he1.Kp
 exact h x n l hp
def Bl.A7.Bc:List (Nat × Entry):=[]
def Bl.A7.E:Env:=Abp (Be Bl.A7.Bc) (fun _=>false) (fun _=>none) (fun _=>none) (wr1 171 (Agj tI .i64 Bl.A4.ts Bl.A4.pre Bl.A4.Aaj)) 1
theorem Bl.A7.ev (N:Nat) (x l:List Int):wrD Bl.A7.E N f129 (Ak f129) tI .i64 x [.fn 130 [] [.cellp [.ints .arg .u64 l]]]=bif (Bs l&&B5 (Jg (length l) x=true∧length x≤6∧(length x:Int)=((length x:Nat):Int))) then some (E5 l x) else none:=by kernel_rfl
abbrev _root_.Go.Proofs.S1.Bl.A7.Kn:Prop:=P4 prog 129 (Agj tI .i64 Bl.A7.ts Bl.A7.pre Bl.A7.Aaj)
theorem Bl.A7.Ad (hk:A2 prog Bl.A7.Bc) (hw:Bl.A4.Kn) (h:∀ (x l:List Int),Bl.A7.pre [.l x,.l l]=true→∃ N,wrD Bl.A7.E N f129 (Ak f129) tI .i64 x [.fn 130 [] [.cellp [.ints .arg .u64 l]]]=some (Bl.A7.Aaj [.l x,.l l])):Bl.A7.Kn:=by
 refine Zq (E:=Bl.A7.E) (Zk hk (Ajk hw) _ _ _ _) (by decide) func129 (show f129.body=some (Ak f129) by kernel_rfl) (by kernel_rfl) (Mf func129 (by kernel_rfl) (show f129.body=some (Ak f129) by kernel_rfl)) fun x ats dvs he hp=>?_
 obtain ⟨_,_,_,_,rfl,rfl,hs0,he0⟩:=he.Ak0
 obtain ⟨_,_,_,_,rfl,rfl,hs1,he1⟩:=hs0.Ak5
 obtain ⟨l,_,_,rfl,rfl,he2⟩:=hs1.Aq7
 obtain ⟨rfl,rfl⟩:=he2.Kp
 obtain ⟨rfl,rfl⟩:=he1.Kp
 obtain ⟨rfl,rfl⟩:=he0.Kp
 exact h x l hp
end EqSort
end Go.Proofs.S1
end
