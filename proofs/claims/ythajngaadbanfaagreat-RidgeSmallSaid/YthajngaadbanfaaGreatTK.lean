/- A verified evaluator of the program's form and its use for this seat: S1EqRefA, S1PRefA, S1PRefAa, S1EqRefB, S1PRefB, S1PRefBa, S1EqRefC, S1PRefC, S1PRefCa, S1EqRefE, S1PRefV, S1EqCmp, S1PCmp, S1PDiv, S1EqRoot, S1PRoot, S1PRootA, LdxL. -/
import Derived.Test.YthajngaadbanfaaGreatTG
import Derived.Test.YthajngaadbanfaaGreatTJ
import Derived.Test.YthajngaadbanfaaGreatTD
import Derived.Test.YthajngaadbanfaaGreatTE
set_option linter.unusedVariables false
set_option linter.unusedSimpArgs false
open Int renaming tmod->zE,tdiv->zB,lt_or_le->xR,zero_mul->yC,mul_assoc->wt,natAbs_mul->yA,natAbs_natCast->zX,natAbs_neg->xz,lt_trichotomy->xT,neg_mul->xS
open Bool renaming false_and->zO,false_or->yH,and_eq_false_iff->xE
open Nat renaming mul_zero->yB,div_lt_iff_lt_mul->yI,div_eq_of_lt->yc,div_one->yT,div_le_div_right->wZ,div_le_self->yJ,pow_succ->zD,log2_self_le->zS,le_log2->zM,lt_trans->xf,mod_lt->zv,mul_div_mul_right->wj,mul_div_cancel->wo
open List renaming mem_cons->zu,replicate->zp,drop->zL,length_cons->zo,length_drop->zP,all_cons->xo
noncomputable section
open Int (toNat)
open List (length getD)
open Go.Proofs.Tryz
namespace Go.Proofs.S1
open Go Go.Den Go.Ct Go.Proofs
set_option maxRecDepth 100000
def Am.Q8.E:=E0 []
theorem Am.Q8.ev(N:Nat)(l:List Int)(i:Int):Bv Am.Q8.E N f159 (Aj f159) [.ints .arg .u32 l,.int .i64 i]=cond ((Fb 0 i)&&(Bc i (length l:Int))) (bif ((decide (0<=i))&&(decide (i<(length l:Int)))) then some (.int .u64 (Bo (getD l (toNat i) 0))) else none) (some (.int .u64 0)) :=Et (Ax (Un (Fb 0 i)) (Ax (Un (Fb 0 i)) (Ax (P7 (Fb 0 i)) (Ax (Auo (Fb 0 i)) (Ax (tt2 (Fb 0 i)) (Co (tt1 _ _) rfl rfl))))))
def Am.Made.hint:Nat->Option A9
 | 0=>some { keep:=[0,1,4,5],objs:=[],boxes:=[4] }
 | _=>none
def Am.Made.E:=C6 (Cw []) (fun _=>false) Am.Made.hint (fun _=>none)
section
variable(N M:Nat)(n:Bool)(l:List Int)(p5:Int)
def Am.Made.L0:Option DV:=B2 Am.Made.E N f104 (Aj f104) [1,1,0,0] [] M ⟨F3 28 [(0,.bool n),(1,.ints .arg .u32 l),(4,.ptr 4 0 0),(5,.int .i64 p5)],[(4,false,.box [.bool false,.nil])]⟩
theorem Am.Made.Ar:Am.Made.L0 N (M+1) n l p5=cond ((!(Bc 0 p5))||((decide (0<=(Ad (p5-1))))&&(decide ((Ad (p5-1))<(length l:Int))))) (bif ((Bc 0 p5)&&((getD l (toNat (Ad (p5-1))) 0)==(0:Int))) then Am.Made.L0 N M n l (Ad (p5-1)) else bif (p5==(0:Int)) then some (.agg [.bool false,.nil]) else bif ((decide ((0:Int)<=p5))&&(decide (p5<=(length l:Int)))) then some (.agg [.bool n,.ints .arg .u32 (List.take (toNat p5) l)]) else none) none :=Et (Ax (Un (Bc 0 p5)) (Ax (Un (Bc 0 p5)) (Ax (P7 (Bc 0 p5)) (Co (Baf _ _ _) (Ax (P7 (Bc 0 p5)) (Ax (P7 (Bc 0 p5)) (Ax (tt2 (Bc 0 p5)) (Co (tt1 _ _) rfl (Es rfl (Co (Kz _ _) rfl rfl)))))) rfl))))
theorem Am.Made.ev:Bv Am.Made.E N f104 (Aj f104) [.bool n,.ints .arg .u32 l] =
 Am.Made.L0 N N n l (length l:Int):=by kernel_rfl
end
def Am.Of.E:=E0 [(104,Am.Made.spec)]
theorem Am.Of.ev(N:Nat)(n:Int):Bv Am.Of.E N f40 (Aj f40) [.int .i64 n]=cond (Bc n 0) (bif (J8 [(Ly (zE (Bo ((Bo (Ad (0-(Ad (n+1)))))+1)) 4294967296)),(Ly (Bo (zB (Bo ((Bo (Ad (0-(Ad (n+1)))))+1)) 4294967296)))]) then some (.agg [.bool (Ba (wv true [(Ly (zE (Bo ((Bo (Ad (0-(Ad (n+1)))))+1)) 4294967296)),(Ly (Bo (zB (Bo ((Bo (Ad (0-(Ad (n+1)))))+1)) 4294967296)))])),.ints .arg .u32 (Al (wv true [(Ly (zE (Bo ((Bo (Ad (0-(Ad (n+1)))))+1)) 4294967296)),(Ly (Bo (zB (Bo ((Bo (Ad (0-(Ad (n+1)))))+1)) 4294967296)))]))]) else none) (bif (J8 [(Ly (zE n 4294967296)),(Ly (Ad (zB n 4294967296)))]) then some (.agg [.bool (Ba (wv false [(Ly (zE n 4294967296)),(Ly (Ad (zB n 4294967296)))])),.ints .arg .u32 (Al (wv false [(Ly (zE n 4294967296)),(Ly (Ad (zB n 4294967296)))]))]) else none):=by kernel_rfl
def Am.On.hint:Nat->Option A9
 | 0=>some { keep:=[0,1,5],objs:=[],boxes:=[] }
 | _=>none
def Am.On.E:=C6 (Cw [(159,Am.Q8.spec)]) (fun _=>false) Am.On.hint (fun _=>none)
section
variable(N M:Nat)(a b:List Int)(p5:Int)
def Am.On.L0:Option DV:=B2 Am.On.E N f111 (Aj f111) [1,0,1,0] [] M ⟨F3 29 [(0,.ints .arg .u32 a),(1,.ints .arg .u32 b),(5,.int .i64 p5)],[]⟩
theorem Am.On.Ar:Am.On.L0 N (M+1) a b p5=cond (Fb 0 p5) (bif (J8 a) then cond (J8 b) (bif (Bc (Je a p5) (Je b p5)) then some (.int .i64 (-1:Int)) else bif (J8 a) then cond (J8 b) (bif (Bc (Je b p5) (Je a p5)) then some (.int .i64 1) else Am.On.L0 N M a b (Ad (p5-1))) none else none) none else none) (some (.int .i64 0)):=by kernel_rfl
theorem Am.On.ev:Bv Am.On.E N f111 (Aj f111) [.ints .arg .u32 a,.ints .arg .u32 b] =
 Am.On.L0 N N a b (max (length a:Int) (length b:Int)):=by kernel_rfl
end
def Am.plus.hint:Nat->Option A9
 | 0=>some { keep:=[0,1,5,6,7],objs:=[(0,5,100005,.ints 121 .u32 [])],boxes:=[] }
 | _=>none
def Am.plus.E:=C6 (Cw [(159,Am.Q8.spec)]) (fun _=>false) Am.plus.hint (fun _=>none)
section
variable(N M:Nat)(a b:List Int)(p6 p7:Int)(p5:List Int)
def Am.plus.L0:Option DV:=B2 Am.plus.E N f110 (Aj f110) [1,1,1,0,1,0] [] M ⟨F3 37 [(0,.ints .arg .u32 a),(1,.ints .arg .u32 b),(5,.oref 100005),(6,.int .u64 p6),(7,.int .i64 p7)],[(100005,false,.ints 121 .u32 p5)]⟩
theorem Am.plus.Ar:Am.plus.L0 N (M+1) a b p6 p7 p5=cond (Fb p7 (max (length a:Int) (length b:Int))) (bif (J8 a) then cond (J8 b) (bif (decide ((length p5)+1<=G2)) then Am.plus.L0 N M a b (Bo (zB (Bo ((Bo ((Je a p7)+(Je b p7)))+p6)) 4294967296)) (Ad (p7+1)) (p5++[(Ly (zE (Bo ((Bo ((Je a p7)+(Je b p7)))+p6)) 4294967296))]) else none) none else none) (some (.ints (.own 100005 121) .u32 p5)):=by kernel_rfl
theorem Am.plus.ev:Bv Am.plus.E N f110 (Aj f110) [.ints .arg .u32 a,.ints .arg .u32 b] =
 Am.plus.L0 N N a b 0 0 []:=by kernel_rfl
end
def Am.minus.hint:Nat->Option A9
 | 0=>some { keep:=[0,1,5,6,7],objs:=[(0,5,100005,.ints 121 .u32 [])],boxes:=[] }
 | _=>none
def Am.minus.E:=C6 (Cw [(159,Am.Q8.spec)]) (fun _=>false) Am.minus.hint (fun _=>none)
section
variable(N M:Nat)(a b:List Int)(p6 p7:Int)(p5:List Int)
def Am.minus.L0:Option DV:=B2 Am.minus.E N f112 (Aj f112) [1,1,1,0,1,0] [] M ⟨F3 36 [(0,.ints .arg .u32 a),(1,.ints .arg .u32 b),(5,.oref 100005),(6,.int .u64 p6),(7,.int .i64 p7)],[(100005,false,.ints 121 .u32 p5)]⟩
theorem Am.minus.Ar:Am.minus.L0 N (M+1) a b p6 p7 p5=cond (Bc p7 (length a:Int)) (bif (J8 a) then cond (J8 b) (bif (decide ((length p5)+1<=G2)) then Am.minus.L0 N M a b (Bo ((1:Int)-(Bo (zB (Bo ((Bo ((Bo ((4294967296:Int)+(Je a p7)))-(Je b p7)))-p6)) 4294967296)))) (Ad (p7+1)) (p5++[(Ly (zE (Bo ((Bo ((Bo ((4294967296:Int)+(Je a p7)))-(Je b p7)))-p6)) 4294967296))]) else none) none else none) (some (.ints (.own 100005 121) .u32 p5)):=by kernel_rfl
theorem Am.minus.ev:Bv Am.minus.E N f112 (Aj f112) [.ints .arg .u32 a,.ints .arg .u32 b] =
 Am.minus.L0 N N a b 0 0 []:=by kernel_rfl
end
def Am.Add.E:=E0 [(104,Am.Made.spec),(111,Am.On.spec),(112,Am.minus.spec),(110,Am.plus.spec)]
theorem Am.Add.ev(N:Nat)(n:Bool)(a:List Int)(m:Bool)(b:List Int):Bv Am.Add.E N f48 (Aj f48) [.agg [.bool n,.ints .arg .u32 a],.agg [.bool m,.ints .arg .u32 b]]=cond (n==m) (bif (J8 a&&J8 b) then cond (J8 (Mw a b)) (some (.agg [.bool (Ba (wv n (Mw a b))),.ints .arg .u32 (Al (wv n (Mw a b)))])) none else none) (bif (J8 a&&J8 b) then cond (Bc (Abw (Cv a) (Cv b)) 0) (bif ((J8 b&&J8 a)&&leL a b) then cond (J8 (Kp b a)) (some (.agg [.bool (Ba (wv m (Kp b a))),.ints .arg .u32 (Al (wv m (Kp b a)))])) none else none) (bif ((J8 a&&J8 b)&&leL b a) then cond (J8 (Kp a b)) (some (.agg [.bool (Ba (wv n (Kp a b))),.ints .arg .u32 (Al (wv n (Kp a b)))])) none else none) else none) :=Et (Es (Co (Cb _) (Co (Cb _) rfl rfl) rfl) (Es (Es (Co (Cb _) (Co (Cb _) rfl rfl) rfl) (Co (Cb _) (Co (Cb _) rfl rfl) rfl)) rfl))
def Am.Neg.E:=E0 [(104,Am.Made.spec)]
theorem Am.Neg.ev(N:Nat)(n:Bool)(a:List Int):Bv Am.Neg.E N f103 (Aj f103) [.agg [.bool n,.ints .arg .u32 a]]=cond (J8 a) (some (.agg [.bool (Ba (wv (!n) a)),.ints .arg .u32 (Al (wv (!n) a))])) none:=by kernel_rfl
open Go Go.Den Go.Ct Go.Proofs
theorem Am.Q8.Ae:Kq 159 Am.Q8.spec:=Eb Am.Q8.E Tryz.func159 .nil fun l i hp=>by
 obtain⟨hl,hi⟩:=Nl hp;refine⟨0,Am.Q8.out [.l l,.i i],[],?_,.int⟩;rw[Am.Q8.ev,Fs,As];show _=some (DV.int .u64 (Je l i));by_cases h0:0<=i
 ·obtain⟨k,rfl⟩:∃k:Nat,i=k:=⟨i.toNat,by omega⟩
  have hv:=Jt hi k;have hg:=R0 hi k;rw[hv,Ber,hg,Beq h0,Bf2];by_cases h1:(k:Int)<(l.length:Int)
  ·rw[Beq h1,Bep,Bep,Dx (by omega) (by omega)]
  ·have h2:l.getD k 0=0:=by rw[Bez,Bf7 (by omega)]; rfl
   rw[h2] at hg;rw[Beu h1,Bet,<- hg]
 ·have:Je l i=0:=by unfold Je; rw[Bfb h0]
  rw[Beu h0,zO,Bet,this]
theorem Ajd{drops:List Nat}{b:Bool}{l:List Int}:Wk drops (.agg [.bool b,.ints .arg .u32 l]) (.agg [.bool b,.ints .arg .u32 l]):=Wk.H3 (.cons .bool (.cons .Aai .nil))
theorem Av4:Ba 0=false:=rfl
theorem Anp:Al 0=[]:=rfl
theorem Awe(N:Nat)(n:Bool){l:List Int}(hl:l.length<1073741824)(hi:Z6 l):∀(p F:Nat),p<=l.length->p<F->Cv l<2^(32*p) ->
 ∃dv,Am.Made.L0 N F n l (p:Int)=some dv/\Wk [] dv (.agg [.bool (Ba (wv n l)),.ints .arg .u32 (Al (wv n l))]):=by
 have hlast:∀p,p<=l.length->Ek (Cv l)=p->p≠0->some (DV.agg [.bool n,.ints .arg .u32 (l.take p)])=some (DV.agg [.bool (Ba (wv n l)),.ints .arg .u32 (Al (wv n l))]):=by
  intro p hp hq h0;have h1:=Arc hi;rw[hq] at h1;have h2:Cv l≠0:=fun h=>by rw[h] at hq; exact h0 hq.symm
  have e:(wv n l).natAbs=Cv l:=by unfold wv Il; split<;>omega
  have e1:Al (wv n l)=Uh (Cv l):=by unfold Al; rw[e]
  have e2:Ba (wv n l)=n:=by unfold Ba wv Il; cases n<;>simp<;>omega
  rw[h1,e1,e2]
 intro p
 induction p with
 | zero =>
   intro F hp hF hv;obtain⟨F,rfl⟩:∃G,F=G+1:=⟨F-1,by omega⟩
   have hz:wv n l=0:=by
    have:Cv l=0:=by rw[yB,Bfn] at hv; omega
    unfold wv Il; rw[this]; cases n<;>rfl
   refine⟨.agg [.bool false,.nil],?_,?_⟩
   ·rw[Am.Made.Ar,As]; rfl
   ·rw[hz,Av4,Anp];exact Wk.H3 (.cons .bool (.cons (.nil _ _) .nil))
 | succ p ih =>
   intro F hp hF hv;obtain⟨F,rfl⟩:∃G,F=G+1:=⟨F-1,by omega⟩
   rw[Am.Made.Ar,As,An (by omega) (by omega)];have e0:((p+1:Nat):Int)-1=(p:Int):=by omega
   have t0:decide ((0:Int)<((p+1:Nat):Int))=true:=Beq (by omega);have t1:decide ((0:Int)<=(p:Int))=true:=by simp
   have t2:decide ((p:Int)<(l.length:Int))=true:=by simp; omega
   have hg:=R0 hi p
   have hq:Cv l / 2^(32*p)<4294967296:=by rw[yI (Cm _),<- Ps]; exact hv
   rw[Be2 hq] at hg;rw[e0,t0,t1,t2,Ber,hg];simp only[Bfo,Bev,yH,Bep,Bf2];by_cases hz:Cv l / 2^(32*p)=0
   ·have:(((Cv l / 2^(32*p):Nat):Int)==0)=true:=by rw[hz]; rfl
    rw[this,Bep];refine ih F (by omega) (by omega) ?_;rcases Bfm (Cv l) (2^(32*p)) with h | h
    ·exact h
    ·have:=Nat.div_pos h (Cm _); omega
   ·have:(((Cv l / 2^(32*p):Nat):Int)==0)=false:=by simp only[Bfk,ne_eq]; omega
    have t3:(((p+1:Nat):Int)==0)=false:=by simp only[Bfk,ne_eq]; omega
    have t4:decide (((p+1:Nat):Int)<=(l.length:Int))=true:=by simp; omega
    have t5:decide ((0:Int)<=((p+1:Nat):Int))=true:=Beq (by omega);rw[this,Bet,t3,Bet,t4,t5,Bev,Bep,Ber]
    have hlen:Ek (Cv l)=p+1:=by
     have a1:=Ou hv
     have a2:=A44 (n:=Cv l) (k:=p) (by
      rcases Bfm (Cv l) (2^(32*p)) with h | h
      ·exact absurd (yc h) hz
      ·exact h)
     omega
    exact⟨_,hlast (p+1) hp hlen (by omega),Ajd⟩
theorem Am.Made.Ae:Kq 104 Am.Made.spec:=Eb Am.Made.E Tryz.func104 .nil fun n l hp=>by obtain⟨hl,hi⟩:=Nl hp;obtain⟨dv,h1,h2⟩:=Awe (l.length+1) n hl hi l.length (l.length+1) (Bfj _) (by omega) (Nf hi);exact⟨l.length+1,dv,[],by rw[Am.Made.ev]; exact h1,h2⟩
theorem Ahh{a b:Int}(ha:0<=a/\a<4294967296)(hb:0<=b/\b<4294967296):J8 [a,b]=true :=
 Nk (show 2<1073741824 by decide) fun x hx=>by
  rcases zu.1 hx with rfl | hx
  ·exact ha
  ·rcases zu.1 hx with rfl | hx
   ·exact hb
   ·cases hx
theorem Ann:(4294967296:Int)=((4294967296:Nat):Int):=rfl
theorem Am.Of.Ae:Kq 40 Am.Of.spec:=Eb Am.Of.E Tryz.func40 (kc Am.Made.Ae .nil) fun n hp=>by
 have hp:=Ak.1 hp;refine⟨0,Am.Of.out [.i n],[],?_,Ajd⟩;rw[Am.Of.ev,As];show _=some (DV.agg [.bool (Ba n),.ints .arg .u32 (Al n)]);by_cases h:n<0
 ·obtain⟨k,rfl⟩:∃k:Nat,n=-(k:Int):=⟨(-n).toNat,by omega⟩
  have e1:Bo (Bo (Ad (0-Ad (-(k:Int)+1)))+1)=(k:Int):=by rw[An (x:=-(k:Int)+1) (by omega) (by omega),An (by omega) (by omega),Dx (x:=0-(-(k:Int)+1)) (by omega) (by omega),Dx (by omega) (by omega)]; omega
  rw[Beq h,Bep,e1,Ann,Lz,L4,Lx (by omega) (by omega),Dx (by omega) (by omega),Lx (by omega) (by omega),
   Ahh (by omega) (by omega),Bep]
  have e2:wv true [((k%4294967296:Nat):Int),((k / 4294967296:Nat):Int)]=-(k:Int):=by unfold wv Il Cv Cv Cv;rw[Bfc rfl,Ber,Ber];omega
  rw[e2]
 ·obtain⟨k,rfl⟩:∃k:Nat,n=(k:Int):=⟨n.toNat,by omega⟩
  rw[Beu h,Bet,Ann,Lz,L4,Lx (by omega) (by omega),An (by omega) (by omega),Lx (by omega) (by omega),
   Ahh (by omega) (by omega),Bep]
  have e2:wv false [((k%4294967296:Nat):Int),((k / 4294967296:Nat):Int)]=(k:Int):=by unfold wv Il Cv Cv Cv;rw[Bfb (by decide),Ber,Ber];omega
  rw[e2]
theorem Am.Neg.Ae:Kq 103 Am.Neg.spec:=Eb Am.Neg.E Tryz.func103 (kc Am.Made.Ae .nil) fun n a hp=>by obtain⟨v,rfl,rfl,hv⟩:=Mf hp;refine⟨0,Am.Neg.out [.b (Ba v),.l (Al v)],[],?_,Ajd⟩;rw[Am.Neg.ev,Sv (by omega),Bep,A6z];rfl
theorem Awc(N:Nat){a b:List Int}(ha:J8 a=true)(hb:J8 b=true):∀(j F:Nat),j<4000000000->j<F->Cv a / 2^(32*j)=Cv b / 2^(32*j) ->
 Am.On.L0 N F a b ((j:Int)-1)=some (.int .i64 (Abw (Cv a) (Cv b))):=by
 have ia:=(Nl ha).2;have ib:=(Nl hb).2;intro j
 induction j with
 | zero =>
   intro F hj hF h;obtain⟨F,rfl⟩:∃G,F=G+1:=⟨F-1,by omega⟩
   rw[yB,Bfn,yT,yT] at h;have e:Abw (Cv a) (Cv b)=0:=by unfold Abw; rw[Bfb (by omega),Bfb (by omega)]
   rw[Am.On.Ar,Fs,e];rfl
 | succ j ih =>
   intro F hj hF h;obtain⟨F,rfl⟩:∃G,F=G+1:=⟨F-1,by omega⟩
   have e0:((j+1:Nat):Int)-1=(j:Int):=by omega
   have t0:decide ((0:Int)<=(j:Int))=true:=Beq (by omega);rw[Ps,Bfd,<- Bfi,<- Bfi] at h
   have up:Cv a / 2^(32*j)<Cv b / 2^(32*j)->Cv a<Cv b:=fun k=>by
    rcases Bfm (Cv a) (Cv b) with h1 | h1
    ·exact h1
    ·have:=wZ (c:=2^(32*j)) h1; omega
   have down:Cv b / 2^(32*j)<Cv a / 2^(32*j)->Cv b<Cv a:=fun k=>by
    rcases Bfm (Cv b) (Cv a) with h1 | h1
    ·exact h1
    ·have:=wZ (c:=2^(32*j)) h1; omega
   rw[Am.On.Ar,e0,Fs,t0,Bep,ha,hb,Bep,Bep,As,As,Jt ia,Jt ib,An (by omega) (by omega)];have ih:=ih F (by omega) (by omega);generalize Cv a / 2^(32*j)=x at *
   generalize Cv b / 2^(32*j)=y at *
   by_cases h1:x%4294967296<y%4294967296
   ·have e:Abw (Cv a) (Cv b)=-1:=by unfold Abw; rw[Bfc (up (by omega))]
    rw[Beq (by omega),Bep,e]
   ·rw[Beu (by omega),Bet];by_cases h2:y%4294967296<x%4294967296
    ·have:=down (by omega);have e:Abw (Cv a) (Cv b)=1:=by unfold Abw; rw[Bfb (by omega),Bfc this]
     rw[Beq (by omega),Bep,e];rfl
    ·rw[Beu (by omega),Bet];exact ih (by omega)
theorem At1{l:List Int}(h:Z6 l){j:Nat}(hj:l.length<=j):Cv l / 2^(32*j)=0 :=yc (Bf0 (Nf h) (Be4 (by decide) (by omega)))
theorem Am.On.Ae:Kq 111 Am.On.spec:=Eb Am.On.E Tryz.func111 (kc Am.Q8.Ae .nil) fun a b hp=>by
 obtain⟨ha,hb⟩:=Ac.1 hp;obtain⟨la,ia⟩:=Nl ha;obtain⟨lb,ib⟩:=Nl hb;refine⟨max a.length b.length+2,Am.On.out [.l a,.l b],[],?_,.int⟩;rw[Am.On.ev];have e:max (a.length:Int) (b.length:Int)=((max a.length b.length+1:Nat):Int)-1:=by omega
 rw[e];exact Awc _ ha hb _ _ (by omega) (by omega) (by rw[At1 ia (by omega),At1 ib (by omega)])
theorem Ah3(N:Nat){a b:List Int}(ha:J8 a=true)(hb:J8 b=true):∀(k i c F:Nat),i+k=max a.length b.length+1->k<F->c<=1 ->
 Cv a / 2^(32*i)+Cv b / 2^(32*i)+c=(Cv a+Cv b) / 2^(32*i) ->
 Am.plus.L0 N F a b (c:Int) (i:Int) (digits i (Cv a+Cv b))=some (.ints (.own 100005 tW) .u32 (Mw a b)):=by
 obtain⟨la,ia⟩:=Nl ha;obtain⟨lb,ib⟩:=Nl hb;intro k
 induction k with
 | zero =>
   intro i c F hi hF hc h;obtain⟨F,rfl⟩:∃G,F=G+1:=⟨F-1,by omega⟩
   have t0:decide ((i:Int)<=max (a.length:Int) (b.length:Int))=false:=Beu (by omega);rw[Am.plus.Ar,Fs,t0,Bet];unfold Mw;rw[show i=max a.length b.length+1 by omega]
 | succ k ih =>
   intro i c F hi hF hc h;obtain⟨F,rfl⟩:∃G,F=G+1:=⟨F-1,by omega⟩
   have t0:decide ((i:Int)<=max (a.length:Int) (b.length:Int))=true:=Beq (by omega);have t1:decide ((digits i (Cv a+Cv b)).length+1<=G2)=true:=Beq (by rw[Fm]; unfold G2; omega);rw[Am.plus.Ar,Fs,t0,ha,hb,t1];simp only[Bep];rw[Jt ia,Jt ib];have ih:=ih (i+1);rw[Ps,Bfd 4294967296,<- Bfi,<- Bfi,<- Bfi,M6] at ih;generalize Cv a / 2^(32*i)=x at *
   generalize Cv b / 2^(32*i)=y at *
   generalize (Cv a+Cv b) / 2^(32*i)=z at *
   have e1:Bo (Bo (((x%4294967296:Nat):Int)+((y%4294967296:Nat):Int))+(c:Int))=((x%4294967296+y%4294967296+c:Nat):Int):=by rw[Dx (x:=((x%4294967296:Nat):Int)+((y%4294967296:Nat):Int)) (by omega) (by omega),Dx (by omega) (by omega)]; omega
   rw[e1,Ann,Lz,L4,Lx (by omega) (by omega),Dx (by omega) (by omega),An (by omega) (by omega)];have e2:(x%4294967296+y%4294967296+c)%4294967296=z%4294967296:=by omega
   rw[e2];exact ih ((x%4294967296+y%4294967296+c) / 4294967296) F (by omega) (by omega) (by omega) (by omega)
theorem Akc{i:Nat}{e:TypeId}{k:IntKind}{l:List Int}:Wk [i] (.ints (.own i e) k l) (.ints .arg k l):=.dropA i e k l (List.mem_singleton.2 rfl)
theorem Am.plus.Ae:Kq 110 Am.plus.spec:=Eb Am.plus.E Tryz.func110 (kc Am.Q8.Ae .nil) fun a b hp=>by obtain⟨ha,hb⟩:=Ac.1 hp;refine⟨max a.length b.length+2,.ints (.own 100005 tW) .u32 (Mw a b),[100005],?_,Akc⟩;rw[Am.plus.ev];exact Ah3 _ ha hb (max a.length b.length+1) 0 0 _ (by omega) (by omega) (by omega) (by simp)
theorem Aq2(N:Nat){a b:List Int}(ha:J8 a=true)(hb:J8 b=true):∀(k i w F:Nat),i+k=a.length->k<F->w<=1 ->
 Cv a / 2^(32*i)=Cv b / 2^(32*i)+(Cv a-Cv b) / 2^(32*i)+w ->
 Am.minus.L0 N F a b (w:Int) (i:Int) (digits i (Cv a-Cv b))=some (.ints (.own 100005 tW) .u32 (Kp a b)):=by
 obtain⟨la,ia⟩:=Nl ha;obtain⟨lb,ib⟩:=Nl hb;intro k
 induction k with
 | zero =>
   intro i c F hi hF hc h;obtain⟨F,rfl⟩:∃G,F=G+1:=⟨F-1,by omega⟩
   have t0:decide ((i:Int)<(a.length:Int))=false:=Beu (by omega);rw[Am.minus.Ar,As,t0,Bet];unfold Kp;rw[show i=a.length by omega]
 | succ k ih =>
   intro i w F hi hF hc h;obtain⟨F,rfl⟩:∃G,F=G+1:=⟨F-1,by omega⟩
   have t0:decide ((i:Int)<(a.length:Int))=true:=Beq (by omega);have t1:decide ((digits i (Cv a-Cv b)).length+1<=G2)=true:=Beq (by rw[Fm]; unfold G2; omega);rw[Am.minus.Ar,As,t0,ha,hb,t1];simp only[Bep];rw[Jt ia,Jt ib];have ih:=ih (i+1);rw[Ps,Bfd 4294967296,<- Bfi,<- Bfi,<- Bfi,M6] at ih;generalize Cv a / 2^(32*i)=x at *
   generalize Cv b / 2^(32*i)=y at *
   generalize (Cv a-Cv b) / 2^(32*i)=z at *
   have e1:Bo (Bo (Bo ((4294967296:Int)+((x%4294967296:Nat):Int))-((y%4294967296:Nat):Int))-(w:Int))=((4294967296+x%4294967296-y%4294967296-w:Nat):Int):=by rw[Dx (x:=(4294967296:Int)+((x%4294967296:Nat):Int)) (by omega) (by omega),Dx (x:=(4294967296:Int)+((x%4294967296:Nat):Int)-((y%4294967296:Nat):Int)) (by omega) (by omega),Dx (by omega) (by omega)]; omega
   have e2:(4294967296+x%4294967296-y%4294967296-w)%4294967296=z%4294967296:=by omega
   have e3:Bo ((1:Int)-(((4294967296+x%4294967296-y%4294967296-w) / 4294967296:Nat):Int))=((1-(4294967296+x%4294967296-y%4294967296-w) / 4294967296:Nat):Int):=by rw[Dx (by omega) (by omega)]; omega
   rw[e1,Ann,Lz,L4,Lx (by omega) (by omega),Dx (x:=(((4294967296+x%4294967296-y%4294967296-w) / 4294967296:Nat):Int)) (by omega) (by omega),An (by omega) (by omega),e2,e3];exact ih (1-(4294967296+x%4294967296-y%4294967296-w) / 4294967296) F (by omega) (by omega) (by omega) (by omega)
theorem Am.minus.Ae:Kq 112 Am.minus.spec:=Eb Am.minus.E Tryz.func112 (kc Am.Q8.Ae .nil) fun a b hp=>by obtain⟨h1,hle⟩:=Ac.1 hp;obtain⟨ha,hb⟩:=Ac.1 h1;have hle:=Ak.1 hle;refine⟨a.length+1,.ints (.own 100005 tW) .u32 (Kp a b),[100005],?_,Akc⟩;rw[Am.minus.ev];exact Aq2 _ ha hb a.length 0 0 _ (by omega) (by omega) (by omega) (by simp; omega)
theorem H7(v:Int):Z6 (Al v):=Ano _
theorem Axw{v w:Int}(h:Ba v=Ba w):wv (Ba v) (Mw (Al v) (Al w))=v+w:=by
 unfold wv;rw[Ah4 (H7 _) (H7 _),Fa,Fa];unfold Ba at h ⊢;unfold Il;rw[decide_eq_decide] at h;by_cases hv:v<0
 ·have hw:=h.1 hv;rw[Beq hv,Bfc rfl]; omega
 ·have hw:¬w<0:=fun k=>hv (h.2 k)
  rw[Beu hv,Bfb (by decide)]; omega
theorem Ase{v w:Int}(h:Ba v≠Ba w)(hl:w.natAbs<=v.natAbs):wv (Ba v) (Kp (Al v) (Al w))=v+w:=by
 unfold wv;rw[Aq4 _ (H7 _),Fa,Fa];unfold Ba at h ⊢;unfold Il;rw[ne_eq,decide_eq_decide] at h;by_cases hv:v<0
 ·have hw:¬w<0:=fun k=>h ⟨fun _=>k,fun _=>hv⟩
  rw[Beq hv,Bfc rfl]; omega
 ·have hw:w<0:=by
   rcases xR w 0 with k | k
   ·exact k
   ·exact absurd ⟨fun k'=>absurd k' hv,fun k'=>by omega⟩ h
  rw[Beu hv,Bfb (by decide)]; omega
theorem Am.Add.Ae:Kq 48 Am.Add.spec:=Eb Am.Add.E Tryz.func48 (kc Am.Made.Ae (kc Am.On.Ae (kc Am.minus.Ae (kc Am.plus.Ae .nil)))) fun n a m b hp=>by
 obtain⟨h1,h2⟩:=Ac.1 hp;obtain⟨v,rfl,rfl,hv⟩:=Mf h1;obtain⟨w,rfl,rfl,hw⟩:=Mf h2;refine⟨0,Am.Add.out [.b (Ba v),.l (Al v),.b (Ba w),.l (Al w)],[],?_,Ajd⟩;have o1:J8 (Al v)=true:=Sv (by omega);have o2:J8 (Al w)=true:=Sv (by omega);rw[Am.Add.ev,o1,o2,Bev,Bep];show _=some (DV.agg [.bool (Ba (wv (Ba v) (Al v)+wv (Ba w) (Al w))),.ints .arg .u32 (Al (wv (Ba v) (Al v)+wv (Ba w) (Al w)))]);rw[Gm,Gm];by_cases hs:Ba v=Ba w
 ·have:(Ba v==Ba w)=true:=by simp[hs]
  have o3:J8 (Mw (Al v) (Al w))=true:=Nk (by rw[Tk,C0,C0]; omega) (Aer _ _);rw[this,Bep,o3,Bep,Axw hs]
 ·have:(Ba v==Ba w)=false:=by simp[hs]
  rw[this,Bet,Bep,As,Fa,Fa,Bf2,Bf2];by_cases hl:v.natAbs<w.natAbs
  ·have e:decide (Abw v.natAbs w.natAbs<0)=true:=Beq (by unfold Abw; rw[Bfc hl]; decide);have o3:J8 (Kp (Al w) (Al v))=true:=Nk (by rw[Xi,C0]; omega) (Aic _ _);have o4:leL (Al v) (Al w)=true:=Ak.2 (by rw[Fa,Fa]; omega);rw[e,Bep,o4,Bep,o3,Bep,Ase (fun k=>hs k.symm) (by omega),Int.add_comm]
  ·have e:decide (Abw v.natAbs w.natAbs<0)=false:=Beu (by unfold Abw; rw[Bfb hl]; split<;>decide);have o3:J8 (Kp (Al v) (Al w))=true:=Nk (by rw[Xi,C0]; omega) (Aic _ _);have o4:leL (Al w) (Al v)=true:=Ak.2 (by rw[Fa,Fa]; omega);rw[e,Bet,o4,Bep,o3,Bep,Ase hs (by omega)]
set_option maxRecDepth 100000
def Am.Lw.E:=E0 [(104,Am.Made.spec),(110,Am.plus.spec)]
theorem Am.Lw.ev(N:Nat)(n:Bool)(a:List Int):Bv Am.Lw.E N f161 (Aj f161) [.agg [.bool n,.ints .arg .u32 a]]=cond (J8 a&&J8 a) (bif (J8 (Mw a a)) then some (.agg [.bool (Ba (wv n (Mw a a))),.ints .arg .u32 (Al (wv n (Mw a a)))]) else none) none :=Et (Co (Cb _) (Co (Cb _) rfl rfl) rfl)
def Am.N3.hint:Nat->Option A9
 | 0=>some { keep:=[1,2,3,4],objs:=[(0,3,100003,.ints 121 .u32 [])],boxes:=[1,2] }
 | _=>none
def Am.N3.E:=C6 (Cw [(104,Am.Made.spec),(159,Am.Q8.spec)]) (fun _=>false) Am.N3.hint (fun _=>none)
section
variable(N M:Nat)(n:Bool)(a:List Int)(p4:Int)(p3:List Int)
def Am.N3.L0:Option DV:=B2 Am.N3.E N f106 (Aj f106) [1,1,0,1,0] [] M ⟨F3 37 [(1,.ptr 1 0 0),(2,.ptr 2 0 0),(3,.oref 100003),(4,.int .i64 p4)],[(1,false,.box [.bool n,.ints .arg .u32 a]),(2,false,.box [.bool false,.nil]),(100003,false,.ints 121 .u32 p3)]⟩
theorem Am.N3.Ar:Am.N3.L0 N (M+1) n a p4 p3=cond (Bc p4 (length a:Int)) (bif (J8 a) then cond (J8 a) (bif ((decide (0<=p4))&&(decide (p4<(length p3:Int)))) then cond (decide ((toNat p4)<(length p3))) (Am.N3.L0 N M n a (Ad (p4+1)) (List.set p3 (toNat p4) (Ly (Bo (zB (Bo ((Bo ((zE (Je a (Ad (p4+1))) 2)*4294967296))+(Je a p4))) 2))))) none else none) none else none) (bif (J8 p3) then some (.agg [.bool (Ba (wv n p3)),.ints .arg .u32 (Al (wv n p3))]) else none) :=Et (Es (Co (Cb _) (Co (Cb _) (Co (Kz _ _) (Co (Cb _) rfl rfl) rfl) rfl) rfl) rfl)
theorem Am.N3.ev:Bv Am.N3.E N f106 (Aj f106) [.agg [.bool n,.ints .arg .u32 a]]=cond (((decide ((0:Int)<=(length a:Int)))&&(decide ((length a:Int)<=(length a:Int))))&&(decide ((length a:Int)<=G2))) (Am.N3.L0 N N n a 0 (zp (toNat (length a:Int)) 0)) none:=by kernel_rfl
end
def Am.Cc.hint:Nat->Option A9
 | 0=>some { keep:=[1,2,4],objs:=[],boxes:=[2,4] }
 | 2=>some { keep:=[1,2,4],objs:=[],boxes:=[2,4] }
 | 4=>some { keep:=[1,2,4],objs:=[],boxes:=[2,4] }
 | 6=>some { keep:=[1,2,4],objs:=[],boxes:=[2,4] }
 | _=>none
def Am.Cc.E:=C6 (Cw [(161,Am.Lw.spec),(106,Am.N3.spec),(104,Am.Made.spec)]) (fun _=>false) Am.Cc.hint (fun _=>none)
section
variable(N:Nat)(n:Bool)(a:List Int)(k:Int)(M:Nat)(p1_3:Int)(p2_6:Bool)(p2_7:List Int)(p1_2:Int)(p2_4:Bool)(p2_5:List Int)(p1_1:Int)(p2_2:Bool)(p2_3:List Int)(p1:Int)(p2:Bool)(p2_1:List Int)
def Am.Cc.L0:Option DV:=B2 Am.Cc.E N f113 (Aj f113) [1,0,0] [] M ⟨F3 63 [(1,.int .i64 p1),(2,.ptr 2 0 0),(4,.ptr 4 0 0)],[(2,false,.box [.bool p2,.ints .arg .u32 p2_1]),(4,false,.box [.bool false,.nil])]⟩
def Am.Cc.L1:Option DV:=B2 Am.Cc.E N f113 (Aj f113) [1,1,0,0] [] M ⟨F3 63 [(1,.int .i64 p1_1),(2,.ptr 2 0 0),(4,.ptr 4 0 0)],[(2,false,.box [.bool p2_2,.ints .arg .u32 p2_3]),(4,false,.box [.bool false,.nil])]⟩
def Am.Cc.L2:Option DV:=B2 Am.Cc.E N f113 (Aj f113) [1,1,1,0,0] [] M ⟨F3 63 [(1,.int .i64 p1_2),(2,.ptr 2 0 0),(4,.ptr 4 0 0)],[(2,false,.box [.bool p2_4,.ints .arg .u32 p2_5]),(4,false,.box [.bool false,.nil])]⟩
def Am.Cc.L3:Option DV:=B2 Am.Cc.E N f113 (Aj f113) [1,1,1,1,0,0] [] M ⟨F3 63 [(1,.int .i64 p1_3),(2,.ptr 2 0 0),(4,.ptr 4 0 0)],[(2,false,.box [.bool p2_6,.ints .arg .u32 p2_7]),(4,false,.box [.bool false,.nil])]⟩
theorem Am.Cc.Ar:Am.Cc.L0 N (M+1) p1 p2 p2_1=cond ((Fb 32 p1)&&(Bc 0 (length p2_1:Int))) (bif (decide (1+(length p2_1)<=G2)) then cond (J8 ([(0:Int)]++p2_1)) (Am.Cc.L0 N M (Ad (p1-32)) (Ba (wv p2 ([(0:Int)]++p2_1))) (Al (wv p2 ([(0:Int)]++p2_1)))) none else none) (Am.Cc.L1 N N p1 p2 p2_1) :=Et (Ax (Un (Fb 32 p1)) (Ax (P7 (Fb 32 p1)) (Ax (P7 (Fb 32 p1)) (Ax (P7 (Fb 32 p1)) (Ax (tt2 (Fb 32 p1)) (Co (tt1 _ _) (Co (Cb _) (Co (Cb _) rfl rfl) rfl) rfl))))))
theorem Am.Cc.B6:Am.Cc.L1 N (M+1) p1_1 p2_2 p2_3=cond ((Bc 0 p1_1)&&(Bc 0 (length p2_3:Int))) (bif (Nd p2_2 p2_3) then Am.Cc.L1 N M (Ad (p1_1-1)) (Ba (2*wv p2_2 p2_3)) (Al (2*wv p2_2 p2_3)) else none) (Am.Cc.L2 N N p1_1 p2_2 p2_3) :=Et (Ax (Un (Bc 0 p1_1)) (Ax (P7 (Bc 0 p1_1)) (Ax (P7 (Bc 0 p1_1)) (Ax (P7 (Bc 0 p1_1)) (Ax (tt2 (Bc 0 p1_1)) (Co (tt1 _ _) rfl rfl))))))
theorem Am.Cc.Jw:Am.Cc.L2 N (M+1) p1_2 p2_4 p2_5=cond ((Fb p1_2 (-32:Int))&&(Bc 0 (length p2_5:Int))) (bif (decide ((1:Int)<=(length p2_5:Int))) then cond (J8 (zL 1 p2_5)) (Am.Cc.L2 N M (Ad (p1_2+32)) (Ba (wv p2_4 (zL 1 p2_5))) (Al (wv p2_4 (zL 1 p2_5)))) none else none) (Am.Cc.L3 N N p1_2 p2_4 p2_5) :=Et (Ax (Un (Fb p1_2 (-32:Int))) (Ax (P7 (Fb p1_2 (-32:Int))) (Ax (P7 (Fb p1_2 (-32:Int))) (Ax (P7 (Fb p1_2 (-32:Int))) (Ax (tt2 (Fb p1_2 (-32:Int))) (Co (tt1 _ _) (Co (Bae _) (Co (Cb _) rfl rfl) rfl) rfl))))))
theorem Am.Cc.W4:Am.Cc.L3 N (M+1) p1_3 p2_6 p2_7=cond ((Bc p1_3 0)&&(Bc 0 (length p2_7:Int))) (bif (Nd p2_6 p2_7) then Am.Cc.L3 N M (Ad (p1_3+1)) (Ba (N7 (wv p2_6 p2_7) 1)) (Al (N7 (wv p2_6 p2_7) 1)) else none) (some (.agg [.bool p2_6,.ints .arg .u32 p2_7])) :=Et (Ax (Un (Bc p1_3 0)) (Ax (P7 (Bc p1_3 0)) (Ax (P7 (Bc p1_3 0)) (Ax (P7 (Bc p1_3 0)) (Ax (tt2 (Bc p1_3 0)) (Co (tt1 _ _) rfl rfl))))))
theorem Am.Cc.ev:Bv Am.Cc.E N f113 (Aj f113) [.agg [.bool n,.ints .arg .u32 a],.int .i64 k] =
 Am.Cc.L0 N N k n a:=by kernel_rfl
end
def Am.Len.hint:Nat->Option A9
 | 0=>some { keep:=[3,4],objs:=[],boxes:=[] }
 | _=>none
def Am.Len.E:=C6 (Cw []) (fun _=>false) Am.Len.hint (fun _=>none)
def Am.Len.L0(N M:Nat)(p3 p4:Int):Option DV:=B2 Am.Len.E N f160 (Aj f160) [1,1,1,0,1,0] [] M ⟨F3 29 [(3,.int .i64 p3),(4,.int .u32 p4)],[]⟩
theorem Am.Len.Ar(N M:Nat)(p3 p4:Int):Am.Len.L0 N (M+1) p3 p4=cond (Bc 0 p4) (Am.Len.L0 N M (Ad (p3+1)) (Ly (zB p4 2))) (some (.int .i64 p3)):=by kernel_rfl
theorem Am.Len.ev(N:Nat)(n:Bool)(a:List Int):Bv Am.Len.E N f160 (Aj f160) [.agg [.bool n,.ints .arg .u32 a]]=cond ((length a:Int)==(0:Int)) (some (.int .i64 0)) (bif ((decide (0<=(Ad ((length a:Int)-1))))&&(decide ((Ad ((length a:Int)-1))<(length a:Int)))) then Am.Len.L0 N N (Ad ((32:Int)*(Ad ((length a:Int)-1)))) (getD a (toNat (Ad ((length a:Int)-1))) 0) else none):=by kernel_rfl
def Am.Odd.E:=E0 []
theorem Am.Odd.ev(N:Nat)(n:Bool)(a:List Int):Bv Am.Odd.E N f105 (Aj f105) [.agg [.bool n,.ints .arg .u32 a]]=cond ((!(Bc 0 (length a:Int)))||(decide ((0:Int)<(length a:Int)))) (some (.bool (cond (Bc 0 (length a:Int)) ((zE (getD a 0 0) 2)==(1:Int)) false))) none :=Et (Ax (Un (Bc 0 (length a:Int))) (Ax (P7 (Bc 0 (length a:Int))) (Co (Bad _ _) (Ax (P7 (Bc 0 (length a:Int))) (Ax (P7 (Bc 0 (length a:Int))) (Ax (P7 (Bc 0 (length a:Int))) (Ax (tt2 (Bc 0 (length a:Int))) rfl)))) rfl)))
theorem Am.Lw.Ae:Kq 161 Am.Lw.spec:=Eb Am.Lw.E Tryz.func161 (kc Am.Made.Ae (kc Am.plus.Ae .nil)) fun n a hp=>by obtain⟨v,rfl,rfl,hv⟩:=Mf hp;refine⟨0,Am.Lw.out [.b (Ba v),.l (Al v)],[],?_,Ajd⟩;have o1:J8 (Al v)=true:=Sv (by omega);have o3:J8 (Mw (Al v) (Al v))=true:=Nk (by rw[Tk,C0]; omega) (Aer _ _);rw[Am.Lw.ev,o1,o3,Bev,Bep,Bep,Axw rfl];show _=some (DV.agg [.bool (Ba (2*wv (Ba v) (Al v))),.ints .arg .u32 (Al (2*wv (Ba v) (Al v)))]);rw[Gm,Int.two_mul]
theorem A7r(l:List Int)(y x:Int)(r:List Int):∀i,i=l.length->(l++y::r).set i x=l++x::r:=by
 induction l with
 | nil=>intro i h; subst h; rfl
 | cons z l ih =>
   intro i h;obtain⟨j,rfl⟩:∃j,i=j+1:=⟨i-1,by rw[zo] at h; omega⟩
   show z::(l++y::r).set j x=z::(l++x::r);rw[ih j (by rw[zo] at h; omega)]
theorem Aws(N:Nat){v:Int}(hv:Ek v.natAbs<268435456):∀(k i F:Nat),i+k=Ek v.natAbs->k<F ->
 Am.N3.L0 N F (Ba v) (Al v) (i:Int) (digits i (v.natAbs / 2)++zp k 0)=some (.agg [.bool (Ba (N7 v 1)),.ints .arg .u32 (Al (N7 v 1))]):=by
 have o1:J8 (Al v)=true:=Sv (by omega);have ia:=H7 v;intro k
 induction k with
 | zero =>
   intro i F hi hF;obtain⟨F,rfl⟩:∃G,F=G+1:=⟨F-1,by omega⟩
   have t0:decide ((i:Int)<((Al v).length:Int))=false:=Beu (by rw[C0]; omega);rw[List.replicate_zero,List.append_nil,Am.N3.Ar,As,t0,Bet];have o3:J8 (digits i (v.natAbs / 2))=true:=Nk (by rw[Fm]; omega) (Qt _ _)
   have e:wv (Ba v) (digits i (v.natAbs / 2))=N7 v 1:=by unfold wv N7;rw[Mq,Be2,Nat.pow_one];have:=Nt v.natAbs;rw[show i=Ek v.natAbs by omega];exact Bfr (yJ _ _) this
   rw[o3,Bep,e]
 | succ k ih =>
   intro i F hi hF;obtain⟨F,rfl⟩:∃G,F=G+1:=⟨F-1,by omega⟩
   have hlen:(digits i (v.natAbs / 2)++zp (k+1) (0:Int)).length=i+(k+1):=by rw[Bfh,Fm,List.length_replicate]
   have t0:decide ((i:Int)<((Al v).length:Int))=true:=Beq (by rw[C0]; omega);have t1:decide ((0:Int)<=(i:Int))=true:=Beq (by omega);have t2:decide ((i:Int)<((digits i (v.natAbs / 2)++zp (k+1) (0:Int)).length:Int))=true:=Beq (by rw[hlen]; omega);have t3:decide (i<(digits i (v.natAbs / 2)++zp (k+1) (0:Int)).length)=true:=Beq (by rw[hlen]; omega);have e0:Ad ((i:Int)+1)=((i+1:Nat):Int):=by rw[An (by omega) (by omega)]; omega
   rw[Am.N3.Ar,As,t0,o1,Ber,t1,t2,t3,Bev];simp only[Bep];rw[e0,Jt ia,Jt ia,Fa];have ih:=ih (i+1) F (by omega) (by omega);rw[M6,Bfi,Bfd 2,<- Bfi] at ih;rw[Ps,Bfd 4294967296,<- Bfi,List.replicate_succ,A7r _ _ _ _ i (Fm _ _).symm];rw[List.append_assoc] at ih;generalize v.natAbs / 2^(32*i)=x at *
   have e1:zE ((x / 4294967296%4294967296:Nat):Int) 2=((x / 4294967296%4294967296%2:Nat):Int):=Lz _ 2
   have e2:Bo (Bo (((x / 4294967296%4294967296%2:Nat):Int)*4294967296)+((x%4294967296:Nat):Int))=((x / 4294967296%4294967296%2*4294967296+x%4294967296:Nat):Int):=by rw[Dx (x:=((x / 4294967296%4294967296%2:Nat):Int)*4294967296) (by omega) (by omega),Dx (by omega) (by omega)]; omega
   have e3:zB ((x / 4294967296%4294967296%2*4294967296+x%4294967296:Nat):Int) 2=(((x / 4294967296%4294967296%2*4294967296+x%4294967296) / 2:Nat):Int):=L4 _ 2;have e4:(x / 4294967296%4294967296%2*4294967296+x%4294967296) / 2=x / 2%4294967296:=by omega
   rw[e1,e2,e3,e4,Dx (by omega) (by omega),Lx (by omega) (by omega)];exact ih
theorem Am.N3.Ae:Kq 106 Am.N3.spec:=Eb Am.N3.E Tryz.func106 (kc Am.Made.Ae (kc Am.Q8.Ae .nil)) fun n a hp=>by obtain⟨v,rfl,rfl,hv⟩:=Mf hp;refine⟨Ek v.natAbs+1,Am.N3.out [.b (Ba v),.l (Al v)],[],?_,Ajd⟩;show _=some (DV.agg [.bool (Ba (N7 (wv (Ba v) (Al v)) 1)),.ints .arg .u32 (Al (N7 (wv (Ba v) (Al v)) 1))]);rw[Am.N3.ev,Gm,C0,Beq (by omega),Beq (by omega),Beq (by unfold G2; omega),Bev,Bev,Bep,Ber];have h:=Aws (Ek v.natAbs+1) hv (Ek v.natAbs) 0 (Ek v.natAbs+1) (by omega) (by omega);rw[digits,List.nil_append] at h;exact h
def Ao8(v:Int):Option DV:=some (.agg [.bool (Ba v),.ints .arg .u32 (Al v)])
theorem Z3(v:Int):Bc (0:Int) ((Al v).length:Int)=decide (v≠0):=by
 rw[As,C0,decide_eq_decide];constructor
 ·intro h e;rw[e] at h;exact absurd h (by decide)
 ·intro h;have:=L7 (n:=v.natAbs) (by omega);omega
theorem A7l(N:Nat):∀(j F:Nat) (v:Int),j<F->j<2000000->Ek v.natAbs<268435456->Am.Cc.L3 N F (-(j:Int)) (Ba v) (Al v)=Ao8 (N7 v j):=by
 intro j
 induction j with
 | zero =>
   intro F v hF _ hv;obtain⟨F,rfl⟩:∃G,F=G+1:=⟨F-1,by omega⟩
   rw[Am.Cc.W4,As,Beu (by omega),zO,Bet,Amj];rfl
 | succ j ih =>
   intro F v hF hj hv;obtain⟨F,rfl⟩:∃G,F=G+1:=⟨F-1,by omega⟩
   rw[Am.Cc.W4,As,Beq (by omega),Bf2,Z3];by_cases h0:v=0
   ·rw[Beu (by omega),Bet,h0,Wb];rfl
   ·rw[Beq h0,Bep,J7 hv,Bep,Gm,An (by omega) (by omega)];have e:-((j+1:Nat):Int)+1=-(j:Int):=by omega
    have hl:Ek (N7 v 1).natAbs<268435456:=by rw[P9];exact Bfr (Qr (yJ _ _)) hv
    rw[e,ih F (N7 v 1) (by omega) (by omega) hl,Ajz,Nat.add_comm]
theorem Asd(v:Int):wv (Ba v) ((Al v).drop 1)=N7 v 32:=by unfold wv N7;rw[Aug (H7 v),Fa,two32]
theorem A7m(N:Nat):∀(F j:Nat) (v:Int),j<F->j<N->j<2000000->Ek v.natAbs<268435456->Am.Cc.L2 N F (-(j:Int)) (Ba v) (Al v)=Ao8 (N7 v j):=by
 intro F
 induction F with
 | zero=>intro j v h; omega
 | succ F ih =>
   intro j v hF hN hj hv;rw[Am.Cc.Jw,Fs,Z3];by_cases hc:32<=j/\v≠0
   ·have o3:J8 ((Al v).drop 1)=true:=Nk (by rw[zP,C0]; omega) (An1 (H7 v))
    have t1:decide ((1:Int)<=((Al v).length:Int))=true:=Beq (by rw[C0];have:=L7 (n:=v.natAbs) (by omega);omega)
    have hl:Ek (N7 v 32).natAbs<268435456:=by rw[P9];exact Bfr (Qr (yJ _ _)) hv
    rw[Beq (by omega),Beq hc.2,Bev,Bep,t1,Bep,o3,Bep,Asd,An (by omega) (by omega)];have e:-(j:Int)+32=-((j-32:Nat):Int):=by omega
    rw[e,ih (j-32) (N7 v 32) (by omega) (by omega) (by omega) hl,Ajz];congr 2;omega
   ·have:(decide (-(j:Int)<=-32)&&decide (v≠0))=false:=by rw[xE,Be8,Be8];omega
    rw[this,Bet];exact A7l N j N v hN hj hv
theorem Ab9(N F:Nat){k:Int}(hk:0<=k)(hN:0<N)(v:Int):Am.Cc.L2 N (F+1) k (Ba v) (Al v)=Ao8 v:=by
 obtain⟨M,rfl⟩:∃M,N=M+1:=⟨N-1,by omega⟩
 rw[Am.Cc.Jw,Fs,Beu (by omega),zO,Bet,Am.Cc.W4,As,Beu (by omega),zO,Bet];rfl
theorem A7n(N:Nat)(hN:0<N):∀(j F:Nat) (v:Int),j<F->j<2000000->Ek v.natAbs+j<268435456->Am.Cc.L1 N F (j:Int) (Ba v) (Al v)=Ao8 (v*((2^j:Nat):Int)):=by
 obtain⟨M,rfl⟩:∃M,N=M+1:=⟨N-1,by omega⟩
 intro j
 induction j with
 | zero =>
   intro F v hF _ hv;obtain⟨F,rfl⟩:∃G,F=G+1:=⟨F-1,by omega⟩
   rw[Am.Cc.B6,As,Beu (by omega),zO,Bet,Ab9 _ _ (by omega) (by omega),Bfn];congr 1;omega
 | succ j ih =>
   intro F v hF hj hv;obtain⟨F,rfl⟩:∃G,F=G+1:=⟨F-1,by omega⟩
   rw[Am.Cc.B6,As,Beq (by omega),Bf2,Z3];by_cases h0:v=0
   ·rw[Beu (by omega),Bet,h0,yC,Ab9 _ _ (by omega) (by omega)]
   ·have hl:=A0v v.natAbs;have e2:(2*v).natAbs=2*v.natAbs:=by omega
    have e:((j+1:Nat):Int)-1=(j:Int):=by omega
    rw[Beq h0,Bep,J7 (by omega),Bep,Gm,An (by omega) (by omega),e,ih F (2*v) (by omega) (by omega) (by rw[e2]; omega)];congr 1;rw[zD,Bfa,Int.mul_comm 2 v,wt,Int.mul_comm ((2^j:Nat):Int)];rfl
theorem A9h(v:Int):wv (Ba v) ([(0:Int)]++Al v)=v*((2^32:Nat):Int):=by
 have e:Cv ([(0:Int)]++Al v)=4294967296*v.natAbs:=by show Cv (0::Al v)=_;rw[Cv,Fa];exact Bfz _
 unfold wv;rw[e,two32];by_cases h:v<0
 ·rw[Wd h]; omega
 ·rw[Wc h]; omega
theorem A7o(N:Nat):∀(F j:Nat) (v:Int),j<F->j<N->j<2000000->Ek v.natAbs+j<268435456->Am.Cc.L0 N F (j:Int) (Ba v) (Al v)=Ao8 (v*((2^j:Nat):Int)):=by
 intro F
 induction F with
 | zero=>intro j v h; omega
 | succ F ih =>
   intro j v hF hN hj hv;rw[Am.Cc.Ar,Fs,Z3];by_cases hc:32<=j/\v≠0
   ·have o3:J8 ([(0:Int)]++Al v)=true:=Nk (by rw[Bfh,C0]; show 1+_<_; omega) (An0 (H7 v));have t1:decide (1+(Al v).length<=G2)=true:=Beq (by rw[C0]; unfold G2; omega);have e2:(v*((2^32:Nat):Int)).natAbs=v.natAbs*4294967296:=by rw[yA,zX,two32]
    have hl:=A43 v.natAbs;rw[Beq (by omega),Beq hc.2,Bev,Bep,t1,Bep,o3,Bep,A9h,An (by omega) (by omega)];have e:(j:Int)-32=((j-32:Nat):Int):=by omega
    rw[e,ih (j-32) _ (by omega) (by omega) (by omega) (by rw[e2]; omega)];have e3:2^j=2^32*2^(j-32):=by rw[<- Bfe]; congr 1; omega
    rw[e3,Bfa,wt]
   ·have:(decide ((32:Int)<=(j:Int))&&decide (v≠0))=false:=by rw[xE,Be8,Be8];omega
    rw[this,Bet];exact A7n N (by omega) j N v hN hj hv
theorem Ap2(N j:Nat)(v:Int)(hj:0<j)(hN:j<N)(hj2:j<2000000)(hv:Ek v.natAbs<268435456):Am.Cc.L0 N N (-(j:Int)) (Ba v) (Al v)=Ao8 (N7 v j):=by
 obtain⟨M,rfl⟩:∃M,N=M+1:=⟨N-1,by omega⟩
 rw[Am.Cc.Ar,Fs,Beu (by omega),zO,Bet,Am.Cc.B6,As,Beu (by omega),zO,Bet];exact A7m _ _ j v hN hN hj2 hv
theorem Am.Cc.Ae:Kq 113 Am.Cc.spec:=Eb Am.Cc.E Tryz.func113 (kc Am.Lw.Ae (kc Am.N3.Ae (kc Am.Made.Ae .nil))) fun n a k hp=>by
 obtain⟨h1,h2⟩:=Ac.1 hp;obtain⟨v,rfl,rfl,hv⟩:=Tr h1;have h2:=Ak.1 h2;refine⟨k.natAbs+1,Am.Cc.out [.b (Ba v),.l (Al v),.i k],[],?_,Ajd⟩;show _=some (DV.agg [.bool (Ba (Kf (wv (Ba v) (Al v)) k)),.ints .arg .u32 (Al (Kf (wv (Ba v) (Al v)) k))]);rw[Am.Cc.ev,Gm];unfold Kf;by_cases h:0<=k
 ·obtain⟨j,rfl⟩:∃j:Nat,k=j:=⟨k.toNat,by omega⟩
  rw[Bfc h,Ber,zX];exact A7o _ _ j v (by omega) (by omega) (by omega) (by omega)
 ·obtain⟨j,rfl⟩:∃j:Nat,k=-(j:Int):=⟨(-k).toNat,by omega⟩
  have e:(-(-(j:Int))).toNat=j:=by omega
  rw[Bfb h,e,xz,zX];exact Ap2 _ j v (by omega) (by omega) (by omega) (by omega)
theorem Awk{t:Nat}(h:2<=t):(t / 2).log2+1=t.log2:=by have:=Anl (n:=t) (m:=1) (by omega);rw[Nat.pow_one] at this;exact this
theorem A0u(N:Nat):∀(F:Nat) (t:Nat) (p:Int),t<2^32->0<t->t.log2+1<F->-1000<=p->p+t.log2<4611686018427387904 ->
 Am.Len.L0 N F p (t:Int)=some (.int .i64 (p+t.log2+1)):=by
 intro F
 induction F with
 | zero=>intro t p _ _ h; omega
 | succ F ih =>
   intro t p ht h0 hF hp1 hp2;have e2:zB (t:Int) 2=((t / 2:Nat):Int):=L4 t 2;rw[two32] at ht;rw[Am.Len.Ar,As,Beq (by omega),Bep,e2,Lx (by omega) (by omega),An (by omega) (by omega)];by_cases h1:t=1
   ·subst h1;obtain⟨G,rfl⟩:∃G,F=G+1:=⟨F-1,by omega⟩
    rw[Am.Len.Ar,As,Beu (by decide),Bet];have:(1:Nat).log2=0:=by decide
    rw[this];congr 2;omega
   ·have hl:=Awk (t:=t) (by omega);rw[ih (t / 2) (p+1) (by rw[two32]; omega) (by omega) (by omega) (by omega) (by omega)];congr 2;omega
theorem Am.Len.Ae:Kq 160 Am.Len.spec:=Eb Am.Len.E Tryz.func160 .nil fun n a hp=>by
 obtain⟨v,rfl,rfl,hv⟩:=Mf hp;refine⟨40,Am.Len.out [.b (Ba v),.l (Al v)],[],?_,.int⟩;show _=some (DV.int .i64 (Afg (wv (Ba v) (Al v))));rw[Am.Len.ev,Gm,C0];unfold Afg;by_cases h0:v=0
 ·rw[Bfc h0,h0]; rfl
 ·have hn:v.natAbs≠0:=by omega
  have hl:=L7 hn;have e0:((Ek v.natAbs:Int)==0)=false:=by simp only[Bfk,ne_eq]; omega
  have e1:(Ek v.natAbs:Int)-1=((Ek v.natAbs-1:Nat):Int):=by omega
  have hlen:Ek v.natAbs=v.natAbs.log2 / 32+1:=by unfold Ek; rw[Bfb hn]
  have hge:2^(32*(Ek v.natAbs-1))<=v.natAbs:=Bfw (Be4 (by decide) (by omega)) (zS hn)
  have hq:v.natAbs / 2^(32*(Ek v.natAbs-1))<2^32:=by
   rw[yI (Cm _),<- Bfe];have:=Nt v.natAbs;have e:32+32*(Ek v.natAbs-1)=32*Ek v.natAbs:=by omega
   rw[e]; exact this
  have hlog:=Anl hge;have hg:=R0 (H7 v) (Ek v.natAbs-1);have hq':=hq;rw[two32] at hq';rw[Fa,Be2 hq'] at hg;have hpos:=Nat.div_pos hge (Cm _);have h32:(v.natAbs / 2^(32*(Ek v.natAbs-1))).log2<32:=(Bf5 (by omega)).2 hq;rw[Bfb h0,e0,Bet,An (by omega) (by omega),e1,Beq (by omega),Beq (by omega),Bev,Bep,Ber,hg,An (by omega) (by omega)];rw[A0u 40 40 _ _ hq hpos (by omega) (by omega) (by omega)];congr 2;omega
theorem Am.Odd.Ae:Kq 105 Am.Odd.spec:=Eb Am.Odd.E Tryz.func105 .nil fun n a hp=>by
 obtain⟨v,rfl,rfl,hv⟩:=Mf hp;refine⟨0,Am.Odd.out [.b (Ba v),.l (Al v)],[],?_,.bool⟩;show _=some (DV.bool (Avy (wv (Ba v) (Al v))));rw[Am.Odd.ev,Gm,Z3];have hg:=R0 (H7 v) 0;rw[Fa,yB,Bfn,yT] at hg;have e2:zE ((v.natAbs%4294967296:Nat):Int) 2=((v.natAbs%4294967296%2:Nat):Int):=Lz _ 2;unfold Avy;by_cases h0:v=0
 ·rw[h0]; rfl
 ·have hl:=L7 (n:=v.natAbs) (by omega);rw[hg,e2,Beq h0,C0,Beq (by omega),Bf1,Bep,Bep];congr 2;rw[Be5];simp only[beq_iff_eq,Bew];omega
def Av.Of.hint:Nat->Option A9
 | 0=>some { keep:=[1,2,4],objs:=[],boxes:=[2,4] }
 | 2=>some { keep:=[1,2,4],objs:=[],boxes:=[2,4] }
 | _=>none
def Av.Of.E:=C6 (Cw [(106,Am.N3.spec),(104,Am.Made.spec),(105,Am.Odd.spec)]) (fun _=>false) Av.Of.hint (fun _=>none)
section
variable(N:Nat)(n:Bool)(a:List Int)(e:Int)(M:Nat)(p1_1:Int)(p2_2:Bool)(p2_3:List Int)(p1:Int)(p2:Bool)(p2_1:List Int)
def Av.Of.L0:Option DV:=B2 Av.Of.E N f39 (Aj f39) [1,1,0,0] [] M ⟨F3 33 [(1,.int .i64 p1),(2,.ptr 2 0 0),(4,.ptr 4 0 0)],[(2,false,.box [.bool p2,.ints .arg .u32 p2_1]),(4,false,.box [.bool false,.nil,.int .i64 0])]⟩
def Av.Of.L1:Option DV:=B2 Av.Of.E N f39 (Aj f39) [1,1,1,0,0] [] M ⟨F3 33 [(1,.int .i64 p1_1),(2,.ptr 2 0 0),(4,.ptr 4 0 0)],[(2,false,.box [.bool p2_2,.ints .arg .u32 p2_3]),(4,false,.box [.bool false,.nil,.int .i64 0])]⟩
theorem Av.Of.Ar:Av.Of.L0 N (M+1) p1 p2 p2_1=cond (decide ((0:Int)<(length p2_1:Int))) (bif ((getD p2_1 0 0)==(0:Int)) then cond (decide ((1:Int)<=(length p2_1:Int))) (bif (J8 (zL 1 p2_1)) then Av.Of.L0 N M (Ad (p1+32)) (Ba (wv p2 (zL 1 p2_1))) (Al (wv p2 (zL 1 p2_1))) else none) none else Av.Of.L1 N N p1 p2 p2_1) none :=Et (Es (Es (Co (Bae _) (Co (Cb _) rfl rfl) rfl) rfl) rfl)
theorem Av.Of.B6:Av.Of.L1 N (M+1) p1_1 p2_2 p2_3=cond (Nd p2_2 p2_3) (bif (!(Avy (wv p2_2 p2_3))) then cond (Nd p2_2 p2_3) (Av.Of.L1 N M (Ad (p1_1+1)) (Ba (N7 (wv p2_2 p2_3) 1)) (Al (N7 (wv p2_2 p2_3) 1))) none else some (.agg [.bool p2_2,.ints .arg .u32 p2_3,.int .i64 p1_1])) none:=by kernel_rfl
theorem Av.Of.ev:Bv Av.Of.E N f39 (Aj f39) [.agg [.bool n,.ints .arg .u32 a],.int .i64 e]=cond ((length a:Int)==(0:Int)) (some (.agg [.bool false,.nil,.int .i64 0])) (Av.Of.L0 N N e n a):=by kernel_rfl
end
def Av.Neg.E:=E0 [(103,Am.Neg.spec)]
theorem Av.Neg.ev(N:Nat)(n:Bool)(a:List Int)(e:Int):Bv Av.Neg.E N f57 (Aj f57) [.agg [.bool n,.ints .arg .u32 a,.int .i64 e]]=cond (Nd n a) (some (.agg [.bool (Ba (- wv n a)),.ints .arg .u32 (Al (- wv n a)),.int .i64 e])) none :=Et (Co (Cb _) rfl rfl)
def Av.Low.E:=E0 []
theorem Av.Low.ev(N:Nat)(n:Bool)(a:List Int)(e:Int)(m:Bool)(b:List Int)(f:Int):Bv Av.Low.E N f47 (Aj f47) [.agg [.bool n,.ints .arg .u32 a,.int .i64 e],.agg [.bool m,.ints .arg .u32 b,.int .i64 f]]=cond ((length a:Int)==(0:Int)) (some (.int .i64 f)) (bif ((length b:Int)==(0:Int)) then some (.int .i64 e) else some (.int .i64 (min e f))):=by kernel_rfl
def Av.Level.E:=E0 [(113,Am.Cc.spec)]
theorem Av.Level.ev(N:Nat)(n:Bool)(a:List Int)(e f:Int):Bv Av.Level.E N f49 (Aj f49) [.agg [.bool n,.ints .arg .u32 a,.int .i64 e],.int .i64 f]=cond ((length a:Int)==(0:Int)) (some (.agg [.bool n,.ints .arg .u32 a])) (bif (okV n a&&A76 (Ad (e-f))) then some (.agg [.bool (Ba (Kf (wv n a) (Ad (e-f)))),.ints .arg .u32 (Al (Kf (wv n a) (Ad (e-f))))]) else none):=by kernel_rfl
def Av.Add.E:=E0 [(48,Am.Add.spec),(49,Av.Level.spec),(47,Av.Low.spec),(39,Av.Of.spec)]
theorem Av.Add.ev(N:Nat)(n:Bool)(a:List Int)(e:Int)(m:Bool)(b:List Int)(f:Int):Bv Av.Add.E N f11 (Aj f11) [.agg [.bool n,.ints .arg .u32 a,.int .i64 e],.agg [.bool m,.ints .arg .u32 b,.int .i64 f]]=cond (Nd n a&&Nd m b) (bif (okV n a&&Avx (wv n a) e (Ej (wv n a) e (wv m b) f)) then cond (okV m b&&Avx (wv m b) f (Ej (wv n a) e (wv m b) f)) (bif (Nd (Ba (Kf (wv n a) (e-(Ej (wv n a) e (wv m b) f)))) (Al (Kf (wv n a) (e-(Ej (wv n a) e (wv m b) f))))&&Nd (Ba (Kf (wv m b) (f-(Ej (wv n a) e (wv m b) f)))) (Al (Kf (wv m b) (f-(Ej (wv n a) e (wv m b) f))))) then cond (Nd (Ba (wv (Ba (Kf (wv n a) (e-(Ej (wv n a) e (wv m b) f)))) (Al (Kf (wv n a) (e-(Ej (wv n a) e (wv m b) f))))+wv (Ba (Kf (wv m b) (f-(Ej (wv n a) e (wv m b) f)))) (Al (Kf (wv m b) (f-(Ej (wv n a) e (wv m b) f)))))) (Al (wv (Ba (Kf (wv n a) (e-(Ej (wv n a) e (wv m b) f)))) (Al (Kf (wv n a) (e-(Ej (wv n a) e (wv m b) f))))+wv (Ba (Kf (wv m b) (f-(Ej (wv n a) e (wv m b) f)))) (Al (Kf (wv m b) (f-(Ej (wv n a) e (wv m b) f))))))&&X6 (Ej (wv n a) e (wv m b) f)) (some (.agg [.bool (Ba (mD (wv (Ba (wv (Ba (Kf (wv n a) (e-(Ej (wv n a) e (wv m b) f)))) (Al (Kf (wv n a) (e-(Ej (wv n a) e (wv m b) f))))+wv (Ba (Kf (wv m b) (f-(Ej (wv n a) e (wv m b) f)))) (Al (Kf (wv m b) (f-(Ej (wv n a) e (wv m b) f)))))) (Al (wv (Ba (Kf (wv n a) (e-(Ej (wv n a) e (wv m b) f)))) (Al (Kf (wv n a) (e-(Ej (wv n a) e (wv m b) f))))+wv (Ba (Kf (wv m b) (f-(Ej (wv n a) e (wv m b) f)))) (Al (Kf (wv m b) (f-(Ej (wv n a) e (wv m b) f))))))))),.ints .arg .u32 (Al (mD (wv (Ba (wv (Ba (Kf (wv n a) (e-(Ej (wv n a) e (wv m b) f)))) (Al (Kf (wv n a) (e-(Ej (wv n a) e (wv m b) f))))+wv (Ba (Kf (wv m b) (f-(Ej (wv n a) e (wv m b) f)))) (Al (Kf (wv m b) (f-(Ej (wv n a) e (wv m b) f)))))) (Al (wv (Ba (Kf (wv n a) (e-(Ej (wv n a) e (wv m b) f)))) (Al (Kf (wv n a) (e-(Ej (wv n a) e (wv m b) f))))+wv (Ba (Kf (wv m b) (f-(Ej (wv n a) e (wv m b) f)))) (Al (Kf (wv m b) (f-(Ej (wv n a) e (wv m b) f))))))))),.int .i64 (eD (wv (Ba (wv (Ba (Kf (wv n a) (e-(Ej (wv n a) e (wv m b) f)))) (Al (Kf (wv n a) (e-(Ej (wv n a) e (wv m b) f))))+wv (Ba (Kf (wv m b) (f-(Ej (wv n a) e (wv m b) f)))) (Al (Kf (wv m b) (f-(Ej (wv n a) e (wv m b) f)))))) (Al (wv (Ba (Kf (wv n a) (e-(Ej (wv n a) e (wv m b) f)))) (Al (Kf (wv n a) (e-(Ej (wv n a) e (wv m b) f))))+wv (Ba (Kf (wv m b) (f-(Ej (wv n a) e (wv m b) f)))) (Al (Kf (wv m b) (f-(Ej (wv n a) e (wv m b) f))))))) (Ej (wv n a) e (wv m b) f))])) none else none) none else none) none :=Et (Es (Co (Cb _) (Co (Cb _) (Co (Cb _) (Co (Cb _) rfl rfl) rfl) rfl) rfl) rfl)
def Av.Sub.E:=E0 [(11,Av.Add.spec),(57,Av.Neg.spec)]
theorem Av.Sub.ev(N:Nat)(n:Bool)(a:List Int)(e:Int)(m:Bool)(b:List Int)(f:Int):Bv Av.Sub.E N f56 (Aj f56) [.agg [.bool n,.ints .arg .u32 a,.int .i64 e],.agg [.bool m,.ints .arg .u32 b,.int .i64 f]]=cond (Nd m b) (bif (((okV n a&&okV (Ba (- wv m b)) (Al (- wv m b)))&&Ts e)&&Ts f) then some (.agg [.bool (Ba (Ro (wv n a) e (wv (Ba (- wv m b)) (Al (- wv m b))) f)),.ints .arg .u32 (Al (Ro (wv n a) e (wv (Ba (- wv m b)) (Al (- wv m b))) f)),.int .i64 (Aoy (wv n a) e (wv (Ba (- wv m b)) (Al (- wv m b))) f)]) else none) none :=Et (Co (Cb _) (Co (Cb _) rfl rfl) rfl)
def Av.D8.E:=E0 [(39,Av.Of.spec)]
theorem Av.D8.ev(N:Nat)(n:Bool)(a:List Int)(e k:Int):Bv Av.D8.E N f41 (Aj f41) [.agg [.bool n,.ints .arg .u32 a,.int .i64 e],.int .i64 k]=cond (Nd n a&&X6 (Ad (e+k))) (some (.agg [.bool (Ba (mD (wv n a))),.ints .arg .u32 (Al (mD (wv n a))),.int .i64 (eD (wv n a) (Ad (e+k)))])) none:=by kernel_rfl
def Av.Top.E:=E0 [(160,Am.Len.spec)]
theorem Av.Top.ev(N:Nat)(n:Bool)(a:List Int)(e:Int):Bv Av.Top.E N f109 (Aj f109) [.agg [.bool n,.ints .arg .u32 a,.int .i64 e]]=cond ((length a:Int)==(0:Int)) (some (.int .i64 0)) (bif (Nd n a) then some (.int .i64 (Ad ((Afg (wv n a))+e))) else none) :=Et (Es rfl (Co (Cb _) rfl rfl))
def Av.Sign.E:=E0 []
theorem Av.Sign.ev(N:Nat)(n:Bool)(a:List Int)(e:Int):Bv Av.Sign.E N f108 (Aj f108) [.agg [.bool n,.ints .arg .u32 a,.int .i64 e]]=cond n (some (.int .i64 (-1:Int))) (some (.int .i64 (min (length a:Int) 1))):=by kernel_rfl
def Av.Compare.E:=E0 [(108,Av.Sign.spec),(56,Av.Sub.spec),(109,Av.Top.spec)]
theorem Av.Compare.ev(N:Nat)(n:Bool)(a:List Int)(e:Int)(m:Bool)(b:List Int)(f:Int):Bv Av.Compare.E N f43 (Aj f43) [.agg [.bool n,.ints .arg .u32 a,.int .i64 e],.agg [.bool m,.ints .arg .u32 b,.int .i64 f]]=cond (Nd n a) (bif (Nd m b) then cond ((Rk (wv n a)) !=(Rk (wv m b))) (bif (Nd n a) then cond (Nd m b) (some (.int .i64 (min 1 (max (-1:Int) (Ad ((Rk (wv n a))-(Rk (wv m b)))))))) none else none) (bif (Nd n a&&Ts e) then cond (Nd m b&&Ts f) (bif ((Ki (wv n a) e) !=(Ki (wv m b) f)) then cond (Nd n a&&Ts e) (bif (Nd m b&&Ts f) then cond (Nd n a) (bif ((Bc (Ki (wv m b) f) (Ki (wv n a) e))==(Bc 0 (Rk (wv n a)))) then some (.int .i64 1) else some (.int .i64 (-1:Int))) none else none) none else bif (((okV n a&&okV m b)&&Ts e)&&Ts f) then cond (Nd (Ba (Ro (wv n a) e (- wv m b) f)) (Al (Ro (wv n a) e (- wv m b) f))) (some (.int .i64 (Rk (wv (Ba (Ro (wv n a) e (- wv m b) f)) (Al (Ro (wv n a) e (- wv m b) f)))))) none else none) none else none) else none) none :=Et (Co (Cb _) (Co (Cb _) (Es (Co (Cb _) (Co (Cb _) rfl rfl) rfl) (Co (Cb _) (Co (Cb _) (Es (Co (Cb _) (Co (Cb _) (Co (Cb _) rfl rfl) rfl) rfl) rfl) rfl) rfl)) rfl) rfl)
abbrev Av.Add.q.Kn:Prop:=E8 prog 11 Av.Add.q.spec
abbrev Av.Sub.q.Kn:Prop:=E8 prog 56 Av.Sub.q.spec
abbrev Av.D8.q.Kn:Prop:=E8 prog 41 Av.D8.q.spec
abbrev Av.Compare.q.Kn:Prop:=E8 prog 43 Av.Compare.q.spec
abbrev Av.Of.q.Kn:Prop:=E8 prog 39 Av.Of.q.spec
def Aw6(v e:Int):Option DV:=some (.agg [.bool (Ba v),.ints .arg .u32 (Al v),.int .i64 e])
theorem wdy{drops:List Nat}{b:Bool}{l:List Int}{e:Int}:Wk drops (.agg [.bool b,.ints .arg .u32 l,.int .i64 e]) (.agg [.bool b,.ints .arg .u32 l,.int .i64 e]):=Wk.H3 (.cons .bool (.cons .Aai (.cons .int .nil)))
theorem A1a(v:Int):(Al v).getD 0 0=((v.natAbs%4294967296:Nat):Int):=by have hg:=R0 (H7 v) 0;rw[Fa,yB,Bfn,yT] at hg;exact hg
theorem As0{v:Int}{k:Nat}(h:Ek v.natAbs<268435456):Ek (N7 v k).natAbs<268435456:=by rw[P9];exact Bfr (Qr (yJ _ _)) h
theorem Ay1{v:Int}{k:Nat}(h0:v≠0)(h:v.natAbs%2^k=0):N7 v k≠0/\Um (N7 v k).natAbs+k=Um v.natAbs:=by
 have hv:=Nat.div_add_mod v.natAbs (2^k);rw[h,Bfx,Bfd] at hv
 have hq:v.natAbs / 2^k≠0:=by intro e; rw[e] at hv; omega
 have ht:=Ajm hq k;rw[hv] at ht;have ha:=P9 v k;refine⟨by omega,?_⟩;rw[ha];omega
theorem Az6(N:Nat):∀(F:Nat) (v e:Int),v≠0->Um v.natAbs<F->Ek v.natAbs<268435456->-4000000000000<=e->e+Um v.natAbs<=400000000000000 ->
 Av.Of.L1 N F e (Ba v) (Al v)=Aw6 (mD v) (eD v e):=by
 intro F
 induction F with
 | zero=>intro v e _ h; omega
 | succ F ih =>
   intro v e h0 hF hv h1 h2;rw[Av.Of.B6,J7 hv,Bep,Gm];by_cases ho:v%2=1
   ·have:Avy v=true:=Beq ho;rw[this,Bfo,Bet,A8f ho,A8s ho];rfl
   ·have:Avy v=false:=Beu ho;have hm:v.natAbs%2^1=0:=by rw[Nat.pow_one]; omega
    obtain⟨n1,n2⟩:=Ay1 h0 hm;rw[this,Bf8,Bep,Bep,An (by omega) (by omega),ih (N7 v 1) (e+1) n1 (by omega) (As0 hv) (by omega) (by omega),Aq8 hm];have:=Arl (e:=e) hm h0;rw[<- this];rfl
theorem Az7(N:Nat):∀(F:Nat) (v e:Int),v≠0->Um v.natAbs<F->Um v.natAbs<N->Ek v.natAbs<268435456->-4000000000000<=e->e+Um v.natAbs<=400000000000000 ->
 Av.Of.L0 N F e (Ba v) (Al v)=Aw6 (mD v) (eD v e):=by
 intro F
 induction F with
 | zero=>intro v e _ h; omega
 | succ F ih =>
   intro v e h0 hF hN hv h1 h2;have hl:=L7 (n:=v.natAbs) (by omega);rw[Av.Of.Ar,C0,Beq (by omega),Bep,A1a];by_cases hz:v.natAbs%4294967296=0
   ·have e0:(((v.natAbs%4294967296:Nat):Int)==0)=true:=by rw[hz]; rfl
    have o3:J8 ((Al v).drop 1)=true:=Nk (by rw[zP,C0]; omega) (An1 (H7 v));have hm:v.natAbs%2^32=0:=by rw[two32]; exact hz
    obtain⟨n1,n2⟩:=Ay1 h0 hm;rw[e0,Bep,Beq (by omega),Bep,o3,Bep,Asd,An (by omega) (by omega),ih (N7 v 32) (e+32) n1 (by omega) (by omega) (As0 hv) (by omega) (by omega),Aq8 hm];have:=Arl (e:=e) hm h0;rw[<- this];rfl
   ·have e0:(((v.natAbs%4294967296:Nat):Int)==0)=false:=by simp only[Bfk,ne_eq]; omega
    rw[e0,Bet];exact Az6 N N v e h0 hN hv h1 h2
theorem Ayb{v:Int}(h0:v≠0)(h:Ek v.natAbs<268435456):Um v.natAbs<8589934592:=by have h1:=Ayc (n:=v.natAbs) (by omega);have h2:=Aie (n:=v.natAbs);omega
theorem Av.Of.Ae:Kq 39 Av.Of.spec:=Eb Av.Of.E Tryz.func39 (kc Am.N3.Ae (kc Am.Made.Ae (kc Am.Odd.Ae .nil))) fun n a e hp=>by
 obtain⟨h1,h2⟩:=Ac.1 hp;obtain⟨v,rfl,rfl,hv⟩:=Mf h1;have h2:=Ak.1 h2;by_cases h0:v=0
 ·subst h0;refine⟨0,.agg [.bool false,.nil,.int .i64 (0:Int)],[],?_,?_⟩
  ·rw[Av.Of.ev]; rfl
  ·show Wk [] _ (.agg [.bool (Ba (mD (wv (Ba 0) (Al 0)))),.ints .arg .u32 (Al (mD (wv (Ba 0) (Al 0)))),.int .i64 (eD (wv (Ba 0) (Al 0)) e)]);rw[Gm,Ns.2 rfl];exact Wk.H3 (.cons .bool (.cons (.nil _ _) (.cons .int .nil)))
 ·refine⟨Um v.natAbs+1,Av.Of.out [.b (Ba v),.l (Al v),.i e],[],?_,wdy⟩;have ht:=Ayb h0 hv;have hl:=L7 (n:=v.natAbs) (by omega);have e0:(((Al v).length:Int)==0)=false:=by rw[C0]; simp only[Bfk,ne_eq]; omega
  show _=Aw6 (mD (wv (Ba v) (Al v))) (eD (wv (Ba v) (Al v)) e);rw[Av.Of.ev,e0,Bet,Gm];exact Az7 _ _ v e h0 (by omega) (by omega) hv (by omega) (by omega)
theorem Av.Neg.Ae:Kq 57 Av.Neg.spec:=Eb Av.Neg.E Tryz.func57 (kc Am.Neg.Ae .nil) fun n a e hp=>by refine⟨0,Av.Neg.out [.b n,.l a,.i e],[],?_,wdy⟩;have hp:Nd n a=true:=hp;rw[Av.Neg.ev,hp,Bep];rfl
theorem Z2(v:Int):(((Al v).length:Int)==0)=decide (v=0):=by
 rw[C0,Be5];simp only[beq_iff_eq,Bew];constructor
 ·intro h;rcases xT v 0 with k | k | k
  ·have:=L7 (n:=v.natAbs) (by omega); omega
  ·exact k
  ·have:=L7 (n:=v.natAbs) (by omega); omega
 ·intro h; rw[h]; rfl
theorem Av.Low.Ae:Kq 47 Av.Low.spec:=Eb Av.Low.E Tryz.func47 .nil fun n a e m b f hp=>by
 obtain⟨h1,h2⟩:=Ac.1 hp;obtain⟨v,rfl,rfl,hv⟩:=Mf h1;obtain⟨w,rfl,rfl,hw⟩:=Mf h2;refine⟨0,Av.Low.out [.b (Ba v),.l (Al v),.i e,.b (Ba w),.l (Al w),.i f],[],?_,.int⟩;show _=some (DV.int .i64 (Ej (wv (Ba v) (Al v)) e (wv (Ba w) (Al w)) f));rw[Av.Low.ev,Gm,Gm,Z2,Z2];unfold Ej;by_cases h:v=0
 ·rw[Beq h,Bep,Bfc h]
 ·rw[Beu h,Bet,Bfb h];by_cases h':w=0
  ·rw[Beq h',Bep,Bfc h']
  ·rw[Beu h',Bet,Bfb h']
theorem Aei(k:Int):Kf 0 k=0:=by
 unfold Kf;split
 ·exact yC _
 ·exact Wb _
theorem Av.Level.Ae:Kq 49 Av.Level.spec:=Eb Av.Level.E Tryz.func49 (kc Am.Cc.Ae .nil) fun n a e f hp=>by
 obtain⟨h1,h2⟩:=Ac.1 hp;obtain⟨v,rfl,rfl,hv⟩:=Tr h1;refine⟨0,Av.Level.out [.b (Ba v),.l (Al v),.i e,.i f],[],?_,Ajd⟩;show _=Ao8 (Kf (wv (Ba v) (Al v)) (e-f));unfold Avx at h2;rw[Gm] at h2;obtain⟨h3,h4⟩:=Ac.1 h2;have h3:=Ak.1 h3;have h4:=Ak.1 h4;rw[Av.Level.ev,Gm,Z2];by_cases h:v=0
 ·rw[Beq h,Bep,h,Aei]; rfl
 ·have o:A76 (Ad (e-f))=true:=by rw[An (by omega) (by omega)]; exact Ak.2 (by omega)
  rw[Beu h,Bet,h1,o,Bev,Bep,An (by omega) (by omega)];rfl
theorem A0w(n k:Nat):Ek (n*2^k)<=Ek n+k:=by refine Ou ?_;have h1:=Nt n;have h2:n*2^k<2^(32*Ek n)*2^k:=(Nat.mul_lt_mul_right (Cm k)).2 h1;rw[<- Bfe] at h2;exact Bf0 h2 (Be4 (by decide) (by omega))
theorem A0x(v k:Int):Ek (Kf v k).natAbs<=Ek v.natAbs+k.toNat:=by
 unfold Kf;by_cases h:0<=k
 ·rw[Bfc h,yA,zX];exact A0w _ _
 ·rw[Bfb h,P9];exact Bfw (Qr (yJ _ _)) (Nat.le_add_right _ _)
theorem Anq(v w:Int):Ek (v+w).natAbs<=max (Ek v.natAbs) (Ek w.natAbs)+1:=by refine Ou ?_;have h1:=Nt v.natAbs;have h2:=Nt w.natAbs;have h3:2^(32*Ek v.natAbs)<=2^(32*max (Ek v.natAbs) (Ek w.natAbs)):=Be4 (by decide) (by omega);have h4:2^(32*Ek w.natAbs)<=2^(32*max (Ek v.natAbs) (Ek w.natAbs)):=Be4 (by decide) (by omega);rw[Ps];omega
theorem Ae9{v e w f:Int}(he:-400000<=e/\e<=400000)(hf:-400000<=f/\f<=400000):-400000<=Ej v e w f/\Ej v e w f<=400000:=by
 unfold Ej;split
 ·exact hf
 ·split
  ·exact he
  ·omega
theorem Ade{v e l:Int}(hv:Ek v.natAbs<134217728)(h:e-l<=800000):Ek (Kf v (e-l)).natAbs<140000000:=by have:=A0x v (e-l);omega
theorem Av.Add.Ae:Kq 11 Av.Add.spec:=Eb Av.Add.E Tryz.func11 (kc Am.Add.Ae (kc Av.Level.Ae (kc Av.Low.Ae (kc Av.Of.Ae .nil)))) fun n a e m b f hp=>by obtain⟨h1,hf⟩:=Ac.1 hp;obtain⟨h2,he⟩:=Ac.1 h1;obtain⟨h3,h4⟩:=Ac.1 h2;obtain⟨v,rfl,rfl,hv⟩:=Tr h3;obtain⟨w,rfl,rfl,hw⟩:=Tr h4;have he:=Ak.1 he;have hf:=Ak.1 hf;refine⟨0,Av.Add.out [.b (Ba v),.l (Al v),.i e,.b (Ba w),.l (Al w),.i f],[],?_,wdy⟩;show _=Aw6 (Ro (wv (Ba v) (Al v)) e (wv (Ba w) (Al w)) f) (Aoy (wv (Ba v) (Al v)) e (wv (Ba w) (Al w)) f);have hlo:=Ae9 (v:=v) (w:=w) he hf;have l1:=Ade (l:=Ej v e w f) hv (show e-Ej v e w f<=800000 by omega);have l2:=Ade (l:=Ej v e w f) hw (show f-Ej v e w f<=800000 by omega);have l3:=Anq (Kf v (e-Ej v e w f)) (Kf w (f-Ej v e w f));have o1:Avx v e (Ej v e w f)=true:=Ac.2 ⟨Ak.2 (by omega),Ak.2 (by omega)⟩;have o2:Avx w f (Ej v e w f)=true:=Ac.2 ⟨Ak.2 (by omega),Ak.2 (by omega)⟩;have o3:X6 (Ej v e w f)=true:=Ak.2 (by omega);rw[Av.Add.ev];simp only[Gm];rw[J7 (v:=v) (by omega),J7 (v:=w) (by omega),h3,h4,o1,o2,J7 (v:=Kf v (e-Ej v e w f)) (by omega),J7 (v:=Kf w (f-Ej v e w f)) (by omega),J7 (v:=Kf v (e-Ej v e w f)+Kf w (f-Ej v e w f)) (by omega),o3];simp only[Bev,Bep];rfl
theorem Av.Sub.Ae:Kq 56 Av.Sub.spec:=Eb Av.Sub.E Tryz.func56 (kc Av.Add.Ae (kc Av.Neg.Ae .nil)) fun n a e m b f hp=>by obtain⟨h1,hf⟩:=Ac.1 hp;obtain⟨h2,he⟩:=Ac.1 h1;obtain⟨h3,h4⟩:=Ac.1 h2;obtain⟨w,rfl,rfl,hw⟩:=Tr h4;refine⟨0,Av.Sub.out [.b n,.l a,.i e,.b (Ba w),.l (Al w),.i f],[],?_,wdy⟩;show _=Aw6 (Ro (wv n a) e (- wv (Ba w) (Al w)) f) (Aoy (wv n a) e (- wv (Ba w) (Al w)) f);rw[Av.Sub.ev];simp only[Gm];rw[J7 (v:=w) (by omega),h3,Aqr (v:=-w) (by rw[xz]; exact hw),he,hf];rfl
theorem Av.D8.Ae:Kq 41 Av.D8.spec:=Eb Av.D8.E Tryz.func41 (kc Av.Of.Ae .nil) fun n a e k hp=>by obtain⟨h1,hk⟩:=Ac.1 hp;obtain⟨h2,he⟩:=Ac.1 h1;have he:=Ak.1 he;have hk:=Ak.1 hk;refine⟨0,Av.D8.out [.b n,.l a,.i e,.i k],[],?_,wdy⟩;have o:X6 (e+k)=true:=Ak.2 (by omega);rw[Av.D8.ev,An (by omega) (by omega),h2,o];rfl
theorem Anr{v:Int}(h:Ek v.natAbs<268435456):0<=Afg v/\Afg v<=8589934593:=by
 have h2:=Aie (n:=v.natAbs);unfold Afg;split
 ·omega
 ·constructor<;>omega
theorem Av.Top.Ae:Kq 109 Av.Top.spec:=Eb Av.Top.E Tryz.func109 (kc Am.Len.Ae .nil) fun n a e hp=>by
 obtain⟨h1,he⟩:=Ac.1 hp;obtain⟨v,rfl,rfl,hv⟩:=Mf h1;have he:=Ak.1 he;refine⟨0,Av.Top.out [.b (Ba v),.l (Al v),.i e],[],?_,.int⟩;show _=some (DV.int .i64 (Ki (wv (Ba v) (Al v)) e));have hb:=Anr hv;rw[Av.Top.ev,Gm,Z2,h1];unfold Ki;by_cases h:v=0
 ·rw[Beq h,Bep,Bfc h]
 ·rw[Beu h,Bet,Bep,Bfb h,An (by omega) (by omega)]
theorem Av.Sign.Ae:Kq 108 Av.Sign.spec:=Eb Av.Sign.E Tryz.func108 .nil fun n a e hp=>by
 obtain⟨v,rfl,rfl,hv⟩:=Mf hp;refine⟨0,Av.Sign.out [.b (Ba v),.l (Al v),.i e],[],?_,.int⟩;show _=some (DV.int .i64 (Rk (wv (Ba v) (Al v))));rw[Av.Sign.ev,Gm,C0];unfold Rk Ba;by_cases h:v<0
 ·rw[Beq h,Bep,Bfc h]
 ·rw[Beu h,Bet,Bfb h];by_cases h':v=0
  ·rw[Bfc h',h']; rfl
  ·have:=L7 (n:=v.natAbs) (by omega);rw[Bfb h'];congr 2;omega
theorem Aq9{v e w f:Int}:(v≠0->0<=e-Ej v e w f)/\(w≠0->0<=f-Ej v e w f):=by
 unfold Ej;constructor
 ·intro h;rw[Bfb h];split<;>omega
 ·intro h;split
  ·omega
  ·omega
theorem Aej{v k:Int}(h:v≠0->0<=k):∃j:Nat,Kf v k=v*((2^j:Nat):Int)/\(v≠0->(j:Int)=k):=by
 by_cases h0:v=0
 ·exact⟨0,by rw[h0,Aei,yC],fun k=>absurd h0 k⟩
 ·have hk:=h h0;refine⟨k.toNat,?_,fun _=>by omega⟩;unfold Kf;rw[Bfc hk]
theorem Ae2(v:Int)(j:Nat):(v*((2^j:Nat):Int)<0↔v<0)/\(v*((2^j:Nat):Int)=0↔v=0):=by
 have hp:=Cm j;constructor
 ·constructor
  ·intro h;rcases xR v 0 with h1 | h1
   ·exact h1
   ·have:=Int.mul_nonneg h1 (Int.natCast_nonneg (2^j)); omega
  ·intro h;exact Int.mul_neg_of_neg_of_pos h (by omega)
 ·constructor
  ·intro h;rcases Int.mul_eq_zero.1 h with h | h
   ·exact h
   ·omega
  ·intro h; rw[h,yC]
theorem Aj2(v:Int)(j:Nat):Rk (v*((2^j:Nat):Int))=Rk v:=by obtain⟨h1,h2⟩:=Ae2 v j;unfold Rk;simp only[h1,h2]
theorem A7q(v:Int):Rk (mD v)=Rk v:=by have:=Aj2 (mD v) (Um v.natAbs);rw[<- Zv] at this;exact this.symm
theorem A5w(x y:Int):Rk (x+-y)=Abv x y:=by
 unfold Rk Abv;by_cases h:x<y
 ·rw[Bfc (by omega),Bfc h]
 ·rw[Bfb (by omega),Bfb h];by_cases h':y<x
  ·rw[Bfb (by omega),Bfc h']
  ·rw[Bfc (by omega),Bfb h']
theorem A4y(v e w f:Int):Ej v e (-w) f=Ej v e w f:=by unfold Ej;have:(-w=0)=(w=0):=propext ⟨fun h=>by omega,fun h=>by omega⟩;simp only[this]
theorem A13{x y:Int}(h:Rk x≠Rk y):Abv x y=min 1 (max (-1) (Rk x-Rk y)):=by
 unfold Rk at h ⊢;unfold Abv;rcases xT x 0 with h1 | h1 | h1<;>rcases xT y 0 with h2 | h2 | h2
 all_goals
  first
  | (exfalso; apply h; simp[show x<0 by omega,show y<0 by omega]; done)
  | (exfalso; apply h; subst h1; subst h2; rfl)
  | (exfalso; apply h; rw[Bfb (by omega),Bfb (by omega),Bfb (by omega),Bfb (by omega)]; done)
  | skip
 ·rw[Bfc (by omega),Bfc (by omega),Bfb (by omega),Bfc (by omega)]; decide
 ·rw[Bfc (by omega),Bfc (by omega),Bfb (by omega),Bfb (by omega)]; decide
 ·rw[Bfb (by omega),Bfc (by omega),Bfb (by omega),Bfc (by omega),Bfc (by omega)]; decide
 ·rw[Bfc (by omega),Bfb (by omega),Bfc (by omega),Bfb (by omega),Bfb (by omega)]; decide
 ·rw[Bfb (by omega),Bfc (by omega),Bfb (by omega),Bfb (by omega),Bfc (by omega)]; decide
 ·rw[Bfb (by omega),Bfc (by omega),Bfb (by omega),Bfb (by omega),Bfb (by omega),Bfc (by omega)]; decide
theorem Afc{a b:Nat}(ha:a≠0)(h:a.log2<b.log2):a<b:=by
 rcases Bfm a b with k | k
 ·exact k
 ·have hb:b≠0:=by intro e; rw[e] at h;exact absurd h (by rw[show(0:Nat).log2=0 by decide]; omega)
  have:=(zM ha).2 (Bfw (zS hb) k);omega
theorem A5v{v e w f:Int}(hs:Rk v=Rk w)(ht:Ki v e≠Ki w f) :
 Aac v e w f=if (decide (Ki w f<Ki v e)==decide (0<Rk v))=true then 1 else -1:=by
 obtain⟨u1,u2⟩:=Aq9 (v:=v) (e:=e) (w:=w) (f:=f);obtain⟨j,hx,hj⟩:=Aej u1;obtain⟨k,hy,hk⟩:=Aej u2;unfold Aac;rw[hx,hy]
 have z:v=0↔w=0:=by
  unfold Rk at hs;constructor
  ·intro h; subst h;revert hs;simp;split<;>simp_all
  ·intro h; subst h;revert hs;simp;split<;>simp_all
 by_cases v0:v=0
 ·exfalso;apply ht;unfold Ki;rw[Bfc v0,Bfc (z.1 v0)]
 ·have w0:w≠0:=fun h=>v0 (z.2 h)
  have hj:=hj v0;have hk:=hk w0;have nv:v.natAbs≠0:=by omega
  have nw:w.natAbs≠0:=by omega
  have l1:=O9 v.natAbs j nv;have l2:=O9 w.natAbs k nw;have ax:(v*((2^j:Nat):Int)).natAbs=v.natAbs*2^j:=by rw[yA,zX]
  have ay:(w*((2^k:Nat):Int)).natAbs=w.natAbs*2^k:=by rw[yA,zX]
  have sx:=(Ae2 v j).1;have sy:=(Ae2 w k).1;have zx:=Aqz v0 j;have zy:=Aqz w0 k;have tv:Ki v e=(v.natAbs.log2:Int)+1+e:=by unfold Ki Afg; rw[Bfb v0,Bfb v0]
  have tw:Ki w f=(w.natAbs.log2:Int)+1+f:=by unfold Ki Afg; rw[Bfb w0,Bfb w0]
  have big:Ki w f<Ki v e->w.natAbs*2^k<v.natAbs*2^j:=fun h=>Afc (Ko nw) (by omega)
  have lit:Ki v e<Ki w f->v.natAbs*2^j<w.natAbs*2^k:=fun h=>Afc (Ko nv) (by omega)
  generalize v*((2^j:Nat):Int)=x at *
  generalize w*((2^k:Nat):Int)=y at *
  by_cases hv:v<0
  ·have sv:Rk v=-1:=by unfold Rk; rw[Bfc hv]
   have hw:w<0:=by
    rw[sv] at hs;unfold Rk at hs;rcases xR w 0 with q | q
    ·exact q
    ·rw[Bfb (by omega),Bfb w0] at hs; omega
   rw[sv];unfold Abv;by_cases h:Ki w f<Ki v e
   ·have:=big h;rw[Beq h,Bfc (by omega)]; rfl
   ·have:=lit (by omega);rw[Beu h,Bfb (by omega),Bfc (by omega)]; rfl
  ·have sv:Rk v=1:=by unfold Rk; rw[Bfb hv,Bfb v0]
   have hw:¬w<0:=by intro q;rw[sv] at hs;unfold Rk at hs;rw[Bfc q] at hs; omega
   rw[sv];unfold Abv;by_cases h:Ki w f<Ki v e
   ·have:=big h;rw[Beq h,Bfb (by omega),Bfc (by omega)]; rfl
   ·have:=lit (by omega);rw[Beu h,Bfc (by omega)]; rfl
theorem A3y(v e w f:Int):Rk (Ro v e (-w) f)=Aac v e w f:=by
 obtain⟨u1,u2⟩:=Aq9 (v:=v) (e:=e) (w:=w) (f:=f);obtain⟨k,hy,hk⟩:=Aej u2
 have hy':Kf (-w) (f-Ej v e w f)=-(Kf w (f-Ej v e w f)):=by
  by_cases w0:w=0
  ·rw[w0]; show Kf 0 _=_; rw[Aei]; rfl
  ·unfold Kf;rw[Bfc (u2 w0),Bfc (u2 w0),xS]
 unfold Ro Ar8 Aac;rw[A7q,A4y,hy',A5w]
theorem Aw9{v e w f:Int}(h:Rk v≠Rk w):Aac v e w f=min 1 (max (-1) (Rk v-Rk w)):=by obtain⟨u1,u2⟩:=Aq9 (v:=v) (e:=e) (w:=w) (f:=f);obtain⟨j,hx,hj⟩:=Aej u1;obtain⟨k,hy,hk⟩:=Aej u2;have e1:=Aj2 v j;have e2:=Aj2 w k;unfold Aac;rw[hx,hy,<- e1,<- e2];exact A13 (by rw[e1,e2]; exact h)
theorem Aek(v:Int):-1<=Rk v/\Rk v<=1:=by unfold Rk; split<;>(try split)<;>omega
theorem A2n{v e w f:Int}(hv:Ek v.natAbs<134217728)(hw:Ek w.natAbs<134217728)(he:-400000<=e/\e<=400000)(hf:-400000<=f/\f<=400000):Ek (Ro v e w f).natAbs<140000001:=by have hlo:=Ae9 (v:=v) (w:=w) he hf;have l1:=Ade (l:=Ej v e w f) hv (show e-Ej v e w f<=800000 by omega);have l2:=Ade (l:=Ej v e w f) hw (show f-Ej v e w f<=800000 by omega);have l3:=Anq (Kf v (e-Ej v e w f)) (Kf w (f-Ej v e w f));have l4:=Qr (Abm (Ar8 v e w f));unfold Ro;unfold Ar8 at l4 ⊢;omega
theorem Av.Compare.Ae:Kq 43 Av.Compare.spec:=Eb Av.Compare.E Tryz.func43 (kc Av.Sign.Ae (kc Av.Sub.Ae (kc Av.Top.Ae .nil))) fun n a e m b f hp=>by
 obtain⟨h1,hf⟩:=Ac.1 hp;obtain⟨h2,he⟩:=Ac.1 h1;obtain⟨h3,h4⟩:=Ac.1 h2;obtain⟨v,rfl,rfl,hv⟩:=Tr h3;obtain⟨w,rfl,rfl,hw⟩:=Tr h4;refine⟨0,Av.Compare.out [.b (Ba v),.l (Al v),.i e,.b (Ba w),.l (Al w),.i f],[],?_,.int⟩;show _=some (DV.int .i64 (Aac (wv (Ba v) (Al v)) e (wv (Ba w) (Al w)) f));have bv:=Aek v;have bw:=Aek w;have hm:=A2n (v:=v) (w:=-w) hv (by rw[xz]; exact hw) (Ak.1 he) (Ak.1 hf);rw[Av.Compare.ev];simp only[Gm];rw[J7 (v:=v) (by omega),J7 (v:=w) (by omega),J7 (v:=Ro v e (-w) f) (by omega),h3,h4,he,hf,As,As];simp only[Bev,Bep];by_cases hs:Rk v=Rk w
 ·have e0:(Rk v !=Rk w)=false:=by simp[hs]
  rw[e0,Bet];by_cases ht:Ki v e=Ki w f
  ·have e1:(Ki v e !=Ki w f)=false:=by simp[ht]
   rw[e1,Bet,A3y]
  ·have e1:(Ki v e !=Ki w f)=true:=by simp[ht]
   rw[e1,Bep,A5v hs ht];cases (decide (Ki w f<Ki v e)==decide (0<Rk v))<;>rfl
 ·have e0:(Rk v !=Rk w)=true:=by simp[hs]
  rw[e0,Bep,Aw9 hs,An (by omega) (by omega)]
def Bg.Value.E:=E0 [(103,Am.Neg.spec),(40,Am.Of.spec),(39,Av.Of.spec),(100,Bg.Uq.spec),(102,Bg.Neg.spec),(101,Bg.Power.spec)]
theorem Bg.Value.ev(N:Nat)(x:Int):Bv Bg.Value.E N f38 (Aj f38) [.int .u64 x]=cond (R9 x) (bif (Aip (Ad (Dv x))) then cond (R9 x) (bif (Bc 0 (Qb x)) then cond (R9 x) (bif (Aip (Ad (Bo ((Dv x)+4503599627370496)))) then cond (R9 x) (bif (Af x) then cond (En x) (bif (Nd (Ba ((Ad (Bo ((Dv x)+4503599627370496))))) (Al ((Ad (Bo ((Dv x)+4503599627370496)))))) then cond (Nd (Ba (- wv (Ba ((Ad (Bo ((Dv x)+4503599627370496))))) (Al ((Ad (Bo ((Dv x)+4503599627370496))))))) (Al (- wv (Ba ((Ad (Bo ((Dv x)+4503599627370496))))) (Al ((Ad (Bo ((Dv x)+4503599627370496)))))))&&X6 (Ad ((Qb x)-1075))) (some (.agg [.bool (Ba (mD (wv (Ba (- wv (Ba ((Ad (Bo ((Dv x)+4503599627370496))))) (Al ((Ad (Bo ((Dv x)+4503599627370496))))))) (Al (- wv (Ba ((Ad (Bo ((Dv x)+4503599627370496))))) (Al ((Ad (Bo ((Dv x)+4503599627370496)))))))))),.ints .arg .u32 (Al (mD (wv (Ba (- wv (Ba ((Ad (Bo ((Dv x)+4503599627370496))))) (Al ((Ad (Bo ((Dv x)+4503599627370496))))))) (Al (- wv (Ba ((Ad (Bo ((Dv x)+4503599627370496))))) (Al ((Ad (Bo ((Dv x)+4503599627370496)))))))))),.int .i64 (eD (wv (Ba (- wv (Ba ((Ad (Bo ((Dv x)+4503599627370496))))) (Al ((Ad (Bo ((Dv x)+4503599627370496))))))) (Al (- wv (Ba ((Ad (Bo ((Dv x)+4503599627370496))))) (Al ((Ad (Bo ((Dv x)+4503599627370496)))))))) (Ad ((Qb x)-1075)))])) none else none) (bif (Nd (Ba ((Ad (Bo ((Dv x)+4503599627370496))))) (Al ((Ad (Bo ((Dv x)+4503599627370496)))))&&X6 (Ad ((Qb x)-1075))) then some (.agg [.bool (Ba (mD (wv (Ba ((Ad (Bo ((Dv x)+4503599627370496))))) (Al ((Ad (Bo ((Dv x)+4503599627370496)))))))),.ints .arg .u32 (Al (mD (wv (Ba ((Ad (Bo ((Dv x)+4503599627370496))))) (Al ((Ad (Bo ((Dv x)+4503599627370496)))))))),.int .i64 (eD (wv (Ba ((Ad (Bo ((Dv x)+4503599627370496))))) (Al ((Ad (Bo ((Dv x)+4503599627370496)))))) (Ad ((Qb x)-1075)))]) else none) else none) none else none) none else bif (Af x) then cond (En x) (bif (Nd (Ba ((Ad (Dv x)))) (Al ((Ad (Dv x))))) then cond (Nd (Ba (- wv (Ba ((Ad (Dv x)))) (Al ((Ad (Dv x)))))) (Al (- wv (Ba ((Ad (Dv x)))) (Al ((Ad (Dv x))))))&&X6 (-1074:Int)) (some (.agg [.bool (Ba (mD (wv (Ba (- wv (Ba ((Ad (Dv x)))) (Al ((Ad (Dv x)))))) (Al (- wv (Ba ((Ad (Dv x)))) (Al ((Ad (Dv x))))))))),.ints .arg .u32 (Al (mD (wv (Ba (- wv (Ba ((Ad (Dv x)))) (Al ((Ad (Dv x)))))) (Al (- wv (Ba ((Ad (Dv x)))) (Al ((Ad (Dv x))))))))),.int .i64 (eD (wv (Ba (- wv (Ba ((Ad (Dv x)))) (Al ((Ad (Dv x)))))) (Al (- wv (Ba ((Ad (Dv x)))) (Al ((Ad (Dv x))))))) (-1074:Int))])) none else none) (bif (Nd (Ba ((Ad (Dv x)))) (Al ((Ad (Dv x))))&&X6 (-1074:Int)) then some (.agg [.bool (Ba (mD (wv (Ba ((Ad (Dv x)))) (Al ((Ad (Dv x))))))),.ints .arg .u32 (Al (mD (wv (Ba ((Ad (Dv x)))) (Al ((Ad (Dv x))))))),.int .i64 (eD (wv (Ba ((Ad (Dv x)))) (Al ((Ad (Dv x))))) (-1074:Int))]) else none) else none) none else none) none:=by kernel_rfl
abbrev Bg.Value.q.Kn:Prop:=E8 prog 38 Bg.Value.q.spec
theorem Ato{n k:Nat}(h:n<2^(32*k)){m:Nat}(hk:k<m):Ek n<m:=Bfr (Ou h) hk
theorem Y6(m:Nat):Il false m=(m:Int):=rfl
theorem Amk(m:Nat):Il true m=-(m:Int):=rfl
theorem Bg.Value.Ae:Kq 38 Bg.Value.spec:=Eb Bg.Value.E Tryz.func38 (kc Am.Neg.Ae (kc Am.Of.Ae (kc Av.Of.Ae (kc Bg.Uq.Ae (kc Bg.Neg.Ae (kc Bg.Power.Ae .nil)))))) fun x hp=>by
 obtain⟨n,rfl,hn⟩:=Bu (x:=x) hp;refine⟨0,Bg.Value.out [.i n],[],?_,wdy⟩;show _=Aw6 (mD (Gf n)) (eD (Gf n) (Bn n));have hf:=L8 n;have hw:=K9 n;have small:∀k:Nat,k<2^54->Ek k<268435456:=fun k hk=>Ato (k:=2) (xf hk (by decide)) (by omega)
 have o1:∀k:Nat,k<2^54->Nd (Ba (k:Int)) (Al (k:Int))=true:=fun k hk=>J7 (by rw[zX]; exact small k hk)
 have o2:∀k:Nat,k<2^54->Nd (Ba (-(k:Int))) (Al (-(k:Int)))=true:=fun k hk=>J7 (by rw[xz,zX]; exact small k hk)
 rw[Bg.Value.ev];unfold Dv Qb En Gf Bn;simp only[Gm,Ber];have e1:Ad ((Dc n:Nat):Int)=((Dc n:Nat):Int):=An (by omega) (by omega)
 have e2:Ad (Bo (((Dc n:Nat):Int)+4503599627370496))=((Dc n+2^52:Nat):Int):=by rw[Dx (by omega) (by omega),An (by omega) (by omega)]; omega
 have i1:∀k:Nat,k<2^54->Aip (k:Int)=true:=fun k hk=>Ak.2 (by omega)
 rw[No,Cr hn,e1,e2,i1 _ (by omega),i1 _ (by omega),As,An (by omega) (by omega)];simp only[Bep];unfold Ap Aw;by_cases h:D7 n=0
 ·have o3:X6 (-1074)=true:=Ak.2 (by omega);rw[Bfc h,Bfc h,Beu (by omega),Bet,o1 _ (by omega),o2 _ (by omega),o3];cases Be n
  ·rw[Bet,Y6]; rfl
  ·rw[Bep,Amk]; rfl
 ·have o3:X6 ((D7 n:Int)-1075)=true:=Ak.2 (by omega);rw[Bfb h,Bfb h,Beq (by omega),Bep,o1 _ (by omega),o2 _ (by omega),o3];cases Be n
  ·rw[Bet,Y6]; rfl
  ·rw[Bep,Amk]; rfl
theorem Ayd{m t:Nat}(h:m<2^t)(h0:m≠0):Um m<t:=Bfr (Ayc h0) ((Bf5 h0).2 h)
theorem Axy(b:Nat)(g:Int):Gc b g=vAt (Gf (b:Int)) (Aw b) g:=by
 unfold Gc vAt Gf;rw[Ber];generalize 2^(Aw b-g).toNat=p;unfold Il;cases Be b
 ·exact Bfa _ _
 ·show -((Ap b*p:Nat):Int)=-(Ap b:Int)*(p:Int)
  rw[Bfa,xS]
theorem Ajg(b:Nat):(Gf (b:Int)).natAbs=Ap b:=by unfold Gf Il;rw[Ber];split<;>omega
theorem A61(b:Nat):Ek (Gf (b:Int)).natAbs<3/\-400000<=eD (Gf (b:Int)) (Aw b)/\eD (Gf (b:Int)) (Aw b)<=400000:=by
 have hm:=F8 b;have he:=Da b;have ha:=Ajg b;refine⟨Ato (k:=2) (by rw[ha]; exact xf hm (by decide)) (by omega),?_⟩;unfold eD;by_cases h:Gf (b:Int)=0
 ·rw[Bfc h]; omega
 ·rw[Bfb h];have:=Ayd (m:=(Gf (b:Int)).natAbs) (t:=53) (by rw[ha]; exact hm) (by omega);omega
def compare.W7.E:=E0 [(181,soft.Sign.spec)]
theorem compare.W7.ev(N:Nat)(b:Int):Bv compare.W7.E N f172 (Aj f172) [.int .u64 b]=cond (Af b) (bif (En b) then some (.int .i64 (Ad (0-(Ad (I4 .u64 b 9223372036854775808))))) else some (.int .i64 (Ad b))) none:=by kernel_rfl
def compare.Order.E:=E0 [(172,compare.W7.spec),(165,soft.Kind.spec)]
theorem compare.Order.ev(N:Nat)(a b:Int):Bv compare.Order.E N f131 (Aj f131) [.int .u64 a,.int .u64 b]=cond (Af a) (bif ((Bb a)==(4:Int)) then some (.tup [.int .i64 0,.bool false]) else bif (Af b) then cond ((Bb b)==(4:Int)) (some (.tup [.int .i64 0,.bool false])) (bif (Af a) then cond (Af b) (bif (Bc (Ah2 a) (Ah2 b)) then some (.tup [.int .i64 (-1:Int),.bool true]) else bif (Af a) then cond (Af b) (bif (Bc (Ah2 b) (Ah2 a)) then some (.tup [.int .i64 1,.bool true]) else some (.tup [.int .i64 0,.bool true])) none else none) none else none) else none) none:=by kernel_rfl
def compare.Ta.E:=E0 [(131,compare.Order.spec)]
theorem compare.Ta.ev(N:Nat)(a b:Int):Bv compare.Ta.E N f78 (Aj f78) [.int .u64 a,.int .u64 b]=cond (Af a&&Af b) (some (.bool (Bc (Hp a b) 0))) none:=by kernel_rfl
def compare.Nc.E:=E0 []
theorem compare.Nc.ev(N:Nat)(a:Int):Bv compare.Nc.E N f80 (Aj f80) [.int .u64 a]=some (.int .u64 (I4 .u64 a 9223372036854775808)):=by kernel_rfl
def compare.D8.hint:Nat->Option A9
 | 1=>some { keep:=[0,6,7,8],objs:=[],boxes:=[] }
 | _=>none
def compare.D8.E:=C6 (Cw [(165,soft.Kind.spec),(180,soft.Ex.spec),(166,soft.Hg.spec),(181,soft.Sign.spec)]) (fun _=>false) compare.D8.hint (fun _=>none)
section
variable(N M:Nat)(a n p6 p7:Int)(p8:Bool)
def compare.D8.L0:Option DV:=B2 compare.D8.E N f143 (Aj f143) [1,1,1,1,1,1,0,0] [] M ⟨F3 59 [(0,.int .u64 a),(6,.int .u64 p6),(7,.int .i64 p7),(8,.bool p8)],[]⟩
theorem compare.D8.Ar:compare.D8.L0 N (M+1) a p6 p7 p8=cond ((Bc p7 (-1130:Int))&&(Bc 1 p6)) (compare.D8.L0 N M a (Eo .u64 p6 1) (Ad (p7+1)) (cond p8 true ((Gl .u64 p6 1)==(1:Int)))) (bif (Bc p7 (-1130:Int)) then cond (Af a) (bif (F0 0 (-1074:Int) true) then some (.tup [.int .u64 (Gr (En a) 0 (-1074:Int) true),.int .u8 (Gq (En a) 0 (-1074:Int) true)]) else none) none else bif (Af a) then cond (F0 p6 p7 p8) (some (.tup [.int .u64 (Gr (En a) p6 p7 p8),.int .u8 (Gq (En a) p6 p7 p8)])) none else none) :=Et (Ax (Un (Bc p7 (-1130:Int))) (Ax (P7 (Bc p7 (-1130:Int))) (Ax (tt2 (Bc p7 (-1130:Int))) (Co (tt1 _ _) (Ax (Uw p8) (Ax (Te p8) (Ax (Te p8) (Ax (tt6 p8) rfl)))) rfl))))
theorem compare.D8.ev:Bv compare.D8.E N f143 (Aj f143) [.int .u64 a,.int .i64 n]=cond (Af a) (bif ((Bb a)==(4:Int)) then some (.tup [.int .u64 9221120237041090560,.int .u8 0]) else bif ((Bb a)==(3:Int)) then cond ((Bb a)==(3:Int)) (some (.tup [.int .u64 a,.int .u8 0])) (bif (Af a) then compare.D8.L0 N N a (B4 a) (Ad ((Bn a)+(max (-2300:Int) (min 2300 n)))) false else none) else bif ((Bb a)==(0:Int)) then some (.tup [.int .u64 a,.int .u8 0]) else bif (Af a) then compare.D8.L0 N N a (B4 a) (Ad ((Bn a)+(max (-2300:Int) (min 2300 n)))) false else none) none:=by kernel_rfl
end
def Ai.Cc.E:=E0 [(143,compare.D8.spec)]
theorem Ai.Cc.ev(N:Nat)(a n:Int):Bv Ai.Cc.E N f79 (Aj f79) [.int .u64 a,.int .i64 n]=cond (Dk a n) (some (.int .u64 (A7 a n))) none:=by kernel_rfl
def Ai.Div.E:=E0 [(144,times.Div.spec)]
theorem Ai.Div.ev(N:Nat)(a b:Int):Bv Ai.Div.E N f82 (Aj f82) [.int .u64 a,.int .u64 b]=cond (Af a&&Af b) (some (.int .u64 (E2 a b))) none:=by kernel_rfl
def Ai.Ck.hint:Nat->Option A9
 | 0=>some { keep:=[3,6,7,8],objs:=[],boxes:=[] }
 | _=>none
def Ai.Ck.E:=C6 (Cw [(80,compare.Nc.spec),(165,soft.Kind.spec)]) (fun _=>false) Ai.Ck.hint (fun _=>none)
section
variable(N M:Nat)(x:List Int)(p3 p8:Int)
def Ai.Ck.L0:Option DV:=B2 Ai.Ck.E N f124 (Aj f124) [1,1,0,1,0] [] M ⟨F3 21 [(3,.int .u64 p3),(6,.ints .arg .u64 x),(7,.int .i64 (length x:Int)),(8,.int .i64 p8)],[]⟩
theorem Ai.Ck.Ar:Ai.Ck.L0 N (M+1) x p3 p8=cond (Bc p8 (length x:Int)) (bif ((decide (0<=p8))&&(decide (p8<(length x:Int)))) then cond (Af (getD x (toNat p8) 0)) (bif ((Bb (getD x (toNat p8) 0))==(4:Int)) then some (.int .u64 9221120237041090560) else bif (Af (getD x (toNat p8) 0)) then Ai.Ck.L0 N M x (max p3 (Hq (getD x (toNat p8) 0))) (Ad (p8+1)) else none) none else none) (some (.int .u64 p3)):=by kernel_rfl
theorem Ai.Ck.ev:Bv Ai.Ck.E N f124 (Aj f124) [.ints .arg .u64 x] =
 Ai.Ck.L0 N N x 0 0:=by kernel_rfl
end
def Ai.Finite.hint:Nat->Option A9
 | 0=>some { keep:=[5,6,7],objs:=[],boxes:=[] }
 | _=>none
def Ai.Finite.E:=C6 (Cw [(136,soft.Finite.spec)]) (fun _=>false) Ai.Finite.hint (fun _=>none)
section
variable(N M:Nat)(x:List Int)(p7:Int)
def Ai.Finite.L0:Option DV:=B2 Ai.Finite.E N f66 (Aj f66) [1,0,1,0] [] M ⟨F3 15 [(5,.ints .arg .u64 x),(6,.int .i64 (length x:Int)),(7,.int .i64 p7)],[]⟩
theorem Ai.Finite.Ar:Ai.Finite.L0 N (M+1) x p7=cond (Bc p7 (length x:Int)) (bif ((decide (0<=p7))&&(decide (p7<(length x:Int)))) then cond (Af (getD x (toNat p7) 0)) (bif (!(Dl (getD x (toNat p7) 0))) then some (.bool false) else Ai.Finite.L0 N M x (Ad (p7+1))) none else none) (some (.bool true)):=by kernel_rfl
theorem Ai.Finite.ev:Bv Ai.Finite.E N f66 (Aj f66) [.ints .arg .u64 x] =
 Ai.Finite.L0 N N x 0:=by kernel_rfl
end
def D2.Check.hint:Nat->Option A9
 | 0=>some { keep:=[9,10,11],objs:=[],boxes:=[] }
 | _=>none
def D2.Check.E:=C6 (Cw [(121,Aa.Check.spec),(136,soft.Finite.spec)]) (fun _=>false) D2.Check.hint (fun _=>none)
section
variable(N:Nat)(r c:Int)(M:Nat)(l:List Int)(p11:Int)
def D2.Check.L0:Option DV:=B2 D2.Check.E N f69 (Aj f69) [1,1,0,1,0] [] M ⟨F3 19 [(9,.ints .arg .u64 l),(10,.int .i64 (length l:Int)),(11,.int .i64 p11)],[]⟩
theorem D2.Check.Ar:D2.Check.L0 N (M+1) l p11=cond (Bc p11 (length l:Int)) (bif ((decide (0<=p11))&&(decide (p11<(length l:Int)))) then cond (Af (getD l (toNat p11) 0)) (bif (!(Dl (getD l (toNat p11) 0))) then some (.int .i64 4) else D2.Check.L0 N M l (Ad (p11+1))) none else none) (some (.int .i64 0)):=by kernel_rfl
theorem D2.Check.ev:Bv D2.Check.E N f69 (Aj f69) [.agg [.int .i64 r,.int .i64 c,.ints .arg .u64 l]]=cond ((Ny r c l) !=(0:Int)) (some (.int .i64 1)) (D2.Check.L0 N N l 0):=by kernel_rfl
end
theorem Wl{k j:Nat}(h:k≠j):(((k:Nat):Int)==((j:Nat):Int))=false:=by rw[Bfk]; omega
theorem Aja(n:Nat):n%2^63<2^63:=zv _ (by decide)
theorem Agl{n:Nat}(h:n<2^64):I4 .u64 (n:Int) (9223372036854775808:Int)=((n%2^63:Nat):Int):=by have:=Ua (Be n) (Aja n);rw[Qm h] at this;exact this
theorem compare.Nc.Ae:Kq 80 compare.Nc.spec:=Eb compare.Nc.E Tryz.func80 .nil fun a hp=>by obtain⟨n,rfl,hn⟩:=Bu (show Af a=true from hp);refine⟨0,compare.Nc.out [.i (n:Int)],[],?_,.int⟩;show _=some (DV.int .u64 (((n:Int).toNat%2^63:Nat):Int));rw[compare.Nc.ev,Agl hn,Ber]
theorem compare.W7.Ae:Kq 172 compare.W7.spec:=Eb compare.W7.E Tryz.func172 (kc soft.Sign.Ae .nil) fun b hp=>by
 have hp:Af b=true:=hp;obtain⟨n,rfl,hn⟩:=Bu hp;refine⟨0,compare.W7.out [.i (n:Int)],[],?_,.int⟩;show _=some (DV.int .i64 (G5 (n:Int).toNat));have h63:=Aja n;rw[compare.W7.ev,hp,Bep,Agl hn,Ber];unfold G5 Il En;rw[Ber];cases hs:Be n with
 | true =>rw[Bep,Bfc rfl,An (x:=((n%2^63:Nat):Int)) (by omega) (by omega),An (by omega) (by omega)];congr 2; omega
 | false =>
   have:n<2^63:=by unfold Be at hs;have:=of_decide_eq_false hs;omega
   rw[Bet,Bfb (by decide),Be2 this,An (by omega) (by omega)]
theorem compare.Order.Ae:Kq 131 compare.Order.spec:=Eb compare.Order.E Tryz.func131 (kc compare.W7.Ae (kc soft.Kind.Ae .nil)) fun a b hp=>by
 obtain⟨ha,hb⟩:=Ac.1 (show(Af a&&Af b)=true from hp);refine⟨0,compare.Order.out [.i a,.i b],[],?_,Wk.Ik (.cons .int (.cons .bool .nil))⟩;show _=some (DV.tup [.int .i64 (Abf a.toNat b.toNat),.bool (Aev a.toNat b.toNat)]);rw[compare.Order.ev,ha,hb,Bep,Bep,Bep,Bep,Bep,Bep,As,As];unfold Abf Aev Ah2 Bb;by_cases h1:Ag a.toNat=4
 ·have e:(((Ag a.toNat:Nat):Int)==(4:Int))=true:=by rw[h1]; rfl
  rw[e,Bep,Bfc (.inl h1),Beq (.inl h1)]; rfl
 ·have e:(((Ag a.toNat:Nat):Int)==(4:Int))=false:=Wl h1;rw[e,Bet];by_cases h2:Ag b.toNat=4
  ·have e:(((Ag b.toNat:Nat):Int)==(4:Int))=true:=by rw[h2]; rfl
   rw[e,Bep,Bfc (.inr h2),Beq (.inr h2)]; rfl
  ·have e:(((Ag b.toNat:Nat):Int)==(4:Int))=false:=Wl h2;have hn:¬(Ag a.toNat=4\/Ag b.toNat=4):=fun h=>h.elim h1 h2
   rw[e,Bet,Bfb hn,Beu hn];by_cases h3:G5 a.toNat<G5 b.toNat
   ·rw[Beq h3,Bfc h3]; rfl
   ·rw[Beu h3,Bfb h3];by_cases h4:G5 b.toNat<G5 a.toNat
    ·rw[Beq h4,Bfc h4]; rfl
    ·rw[Beu h4,Bfb h4]; rfl
theorem compare.Ta.Ae:Kq 78 compare.Ta.spec:=Eb compare.Ta.E Tryz.func78 (kc compare.Order.Ae .nil) fun a b hp=>by have hp:(Af a&&Af b)=true:=hp;refine⟨0,compare.Ta.out [.i a,.i b],[],?_,.bool⟩;rw[compare.Ta.ev,hp,As]; rfl
theorem Ap8(N:Nat){a:Int}(ha:Af a=true):∀(k F m:Nat) (e:Int) (b:Bool),e=-1130-(k:Int)->k<F->m<2^53->(m≠0\/b=true)->-9000<e ->
 compare.D8.L0 N F a (m:Int) e b=some (.tup [.int .u64 (((Bf (Be a.toNat) 0,3):Nat × Nat).1:Nat),.int .u8 (((Bf (Be a.toNat) 0,3):Nat × Nat).2:Nat)]):=by
 have pre1:F0 (0:Int) (-1074:Int) true=true:=Ak.2 (by omega);intro k
 induction k with
 | zero =>
   intro F m e b he hF hm h0 _;obtain⟨F,rfl⟩:∃G,F=G+1:=⟨F-1,by omega⟩
   have hlt:Bc e (-1130:Int)=false:=by rw[As]; exact Beu (by omega)
   have W8:F0 (m:Int) e b=true:=Ak.2 (by omega);rw[compare.D8.Ar,hlt,zO,Bet,Bet,ha,Bep,W8,Bep];unfold Gr Gq En;rw[Ber,Av5 _ hm h0 (by omega)]
 | succ k ih =>
   intro F m e b he hF hm h0 hb;obtain⟨F,rfl⟩:∃G,F=G+1:=⟨F-1,by omega⟩
   have hlt:Bc e (-1130:Int)=true:=by rw[As]; exact Beq (by omega)
   rw[compare.D8.Ar,hlt,Bf2,Bep,As];by_cases h1:(1:Int)<(m:Int)
   ·have em:Eo .u64 (m:Int) (1:Int)=((m / 2^1:Nat):Int):=J3 .u64 m 1 (by decide);rw[Beq h1,Bep,em,An (by omega) (by omega)];exact ih F (m / 2^1) (e+1) _ (by omega) (by omega) (by omega) (.inl (by omega)) (by omega)
   ·rw[Beu h1,Bet,ha,Bep,pre1,Bep];unfold Gr Gq En;rw[show(0:Int).toNat=0 from rfl,A0e]
theorem compare.D8.Ae:Kq 143 compare.D8.spec:=Eb compare.D8.E Tryz.func143 (kc soft.Kind.Ae (kc soft.Ex.Ae (kc soft.Hg.Ae (kc soft.Sign.Ae .nil)))) fun a n hp=>by
 obtain⟨ha,hn⟩:=Ac.1 (show Dk a n=true from hp);have hn:=Ak.1 hn;refine⟨3000,compare.D8.out [.i a,.i n],[],?_,Wk.Ik (.cons .int (.cons .int .nil))⟩;show _=some (DV.tup [.int .u64 ((Cq a.toNat n).1:Nat),.int .u8 ((Cq a.toNat n).2:Nat)]);have em:max (-2300:Int) (min (2300:Int) n)=n:=by omega
 have pE:=Da a.toNat;have pM:=F8 a.toNat;have ee:Ad (Bn a+n)=Aw a.toNat+n:=by unfold Bn; exact An (by omega) (by omega)
 rw[compare.D8.ev,ha,Bep,Bep,em,ee];unfold Bb;by_cases h4:Ag a.toNat=4
 ·have e:(((Ag a.toNat:Nat):Int)==(4:Int))=true:=by rw[h4]; rfl
  rw[e,Bep];unfold Cq;rw[Bfc h4]; rfl
 have e4:(((Ag a.toNat:Nat):Int)==(4:Int))=false:=Wl h4;rw[e4,Bet];by_cases h3:Ag a.toNat=3
 ·have e:(((Ag a.toNat:Nat):Int)==(3:Int))=true:=by rw[h3]; rfl
  obtain⟨k,rfl,hk⟩:=Bu ha;rw[e,Bep,Bep];unfold Cq;rw[Bfb h4,Bfc (.inl h3),Ber]; rfl
 have e3:(((Ag a.toNat:Nat):Int)==(3:Int))=false:=Wl h3;rw[e3,Bet];by_cases h0:Ag a.toNat=0
 ·have e:(((Ag a.toNat:Nat):Int)==(0:Int))=true:=by rw[h0]; rfl
  obtain⟨k,rfl,hk⟩:=Bu ha;rw[e,Bep];unfold Cq;rw[Bfb h4,Bfc (.inr h0),Ber]; rfl
 have e0:(((Ag a.toNat:Nat):Int)==(0:Int))=false:=Wl h0;have hk:¬(Ag a.toNat=3\/Ag a.toNat=0):=fun h=>h.elim h3 h0
 have hm:Ap a.toNat≠0:=fun h=>h0 ((Du h3 h4).1 h)
 rw[e0,Bet];show compare.D8.L0 3000 3000 a (Ap a.toNat:Nat) (Aw a.toNat+n) false=_;by_cases ht:Aw a.toNat+n<=-1130
 ·rw[Ap7 h4 hk ht];exact Ap8 3000 ha (-1130-(Aw a.toNat+n)).toNat 3000 _ _ false (by omega) (by omega) (by omega) (.inl hm) (by omega)
 ·have hlt:Bc (Aw a.toNat+n) (-1130:Int)=false:=by rw[As]; exact Beu (by omega)
  have W8:F0 ((Ap a.toNat:Nat):Int) (Aw a.toNat+n) false=true:=Ak.2 ⟨by omega,by omega,by omega,by omega,fun h=>by cases h⟩;rw[Ms h4 hk,show(3000:Nat)=2999+1 from rfl,compare.D8.Ar,hlt,zO,Bet,Bet,ha,Bep,W8,Bep];unfold Gr Gq En;rw[Ber,Acg]
theorem Ai.Cc.Ae:Kq 79 Ai.Cc.spec:=Eb Ai.Cc.E Tryz.func79 (kc compare.D8.Ae .nil) fun a n hp=>by have hp:Dk a n=true:=hp;refine⟨0,Ai.Cc.out [.i a,.i n],[],?_,.int⟩;rw[Ai.Cc.ev,hp]; rfl
theorem Ai.Div.Ae:Kq 82 Ai.Div.spec:=Eb Ai.Div.E Tryz.func82 (kc times.Div.Ae .nil) fun a b hp=>by have hp:(Af a&&Af b)=true:=hp;refine⟨0,Ai.Div.out [.i a,.i b],[],?_,.int⟩;rw[Ai.Div.ev,hp]; rfl
theorem Lh{l:List Int}{i:Nat}(h:i<l.length):l.drop i=l.getD i 0::l.drop (i+1):=by rw[List.drop_eq_getElem_cons h,Bez,Be6 h]; rfl
theorem Jr{l:List Int}(h:By l=true):l.length<4611686018427387904/\∀j,j<l.length->Af (l.getD j 0)=true:=by obtain⟨h1,h2⟩:=Ak.1 h;exact⟨h1,fun j hj=>by rw[Bez,Be6 hj]; exact h2 _ (List.getElem_mem hj)⟩
theorem Gz{l:List Int}(h:Ah l=true)(hl:l.length<=1000):By l=true:=Ak.2 ⟨by omega,Ak.1 h⟩
theorem An8(N:Nat){x:List Int}(hx:By x=true):∀(k i F:Nat),i+k=x.length->k<F->Ai.Finite.L0 N F x (i:Int)=some (.bool ((x.drop i).all Dl)):=by
 obtain⟨hl,hu⟩:=Jr hx;intro k
 induction k with
 | zero =>
   intro i F hi hF;obtain⟨F,rfl⟩:∃G,F=G+1:=⟨F-1,by omega⟩
   rw[Ai.Finite.Ar,As,Beu (by omega),Bet,Be3 (by omega)]; rfl
 | succ k ih =>
   intro i F hi hF;obtain⟨F,rfl⟩:∃G,F=G+1:=⟨F-1,by omega⟩
   rw[Ai.Finite.Ar,As,Beq (show(i:Int)<(x.length:Int) by omega),Bep,Beq (show(0:Int)<=(i:Int) by omega),Bev,Bep,Ber,hu i (by omega),Bep,Lh (by omega),xo];cases Dl (x.getD i 0) with
   | false=>rfl
   | true =>rw[Bfo,Bet,An (by omega) (by omega),Bf2];exact ih (i+1) F (by omega) (by omega)
theorem Ai.Finite.Ae:Kq 66 Ai.Finite.spec:=Eb Ai.Finite.E Tryz.func66 (kc soft.Finite.Ae .nil) fun x hp=>by have hp:By x=true:=hp;refine⟨x.length+1,Ai.Finite.out [.l x],[],?_,.bool⟩;show _=some (DV.bool (x.all Dl));rw[Ai.Finite.ev];exact An8 _ hp x.length 0 (x.length+1) (by omega) (by omega)
theorem Axi{x:List Int}{i:Nat}(h:i<x.length)(m:Nat):Nb (x.drop i) m=if Ag (x.getD i 0).toNat=4 then P1 else Nb (x.drop (i+1)) (max m (E9 (x.getD i 0).toNat)):=by rw[Lh h]; rfl
theorem Alc(N:Nat){x:List Int}(hx:By x=true):∀(k i F m:Nat),i+k=x.length->k<F->Ai.Ck.L0 N F x (m:Int) (i:Int)=some (.int .u64 ((Nb (x.drop i) m:Nat):Int)):=by
 obtain⟨hl,hu⟩:=Jr hx;intro k
 induction k with
 | zero =>
   intro i F m hi hF;obtain⟨F,rfl⟩:∃G,F=G+1:=⟨F-1,by omega⟩
   rw[Ai.Ck.Ar,As,Beu (by omega),Bet,Be3 (by omega)]; rfl
 | succ k ih =>
   intro i F m hi hF;obtain⟨F,rfl⟩:∃G,F=G+1:=⟨F-1,by omega⟩
   rw[Ai.Ck.Ar,As,Beq (show(i:Int)<(x.length:Int) by omega),Bep,Beq (show(0:Int)<=(i:Int) by omega),Bev,Bep,Ber,hu i (by omega),Bep,Axi (by omega)];unfold Bb;by_cases h4:Ag (x.getD i 0).toNat=4
   ·have e:(((Ag (x.getD i 0).toNat:Nat):Int)==(4:Int))=true:=by rw[h4]; rfl
    rw[e,Bep,Bfc h4]; rfl
   ·have e:(((Ag (x.getD i 0).toNat:Nat):Int)==(4:Int))=false:=Wl h4;have em:max (m:Int) (Hq (x.getD i 0))=((max m (E9 (x.getD i 0).toNat):Nat):Int):=by unfold Hq; omega
    rw[e,Bet,Bep,Bfb h4,em,An (by omega) (by omega)];exact ih (i+1) F _ (by omega) (by omega)
theorem Ai.Ck.Ae:Kq 124 Ai.Ck.spec:=Eb Ai.Ck.E Tryz.func124 (kc compare.Nc.Ae (kc soft.Kind.Ae .nil)) fun x hp=>by have hp:By x=true:=hp;refine⟨x.length+1,Ai.Ck.out [.l x],[],?_,.int⟩;rw[Ai.Ck.ev];exact Alc _ hp x.length 0 (x.length+1) 0 (by omega) (by omega)
theorem Ak9(N:Nat){x:List Int}(hx:By x=true):∀(k i F:Nat),i+k=x.length->k<F->D2.Check.L0 N F x (i:Int)=some (.int .i64 (if (x.drop i).all Dl=true then 0 else 4)):=by
 obtain⟨hl,hu⟩:=Jr hx;intro k
 induction k with
 | zero =>
   intro i F hi hF;obtain⟨F,rfl⟩:∃G,F=G+1:=⟨F-1,by omega⟩
   rw[D2.Check.Ar,As,Beu (by omega),Bet,Be3 (by omega)]; rfl
 | succ k ih =>
   intro i F hi hF;obtain⟨F,rfl⟩:∃G,F=G+1:=⟨F-1,by omega⟩
   rw[D2.Check.Ar,As,Beq (show(i:Int)<(x.length:Int) by omega),Bep,Beq (show(0:Int)<=(i:Int) by omega),Bev,Bep,Ber,hu i (by omega),Bep,Lh (by omega),xo];cases Dl (x.getD i 0) with
   | false=>rfl
   | true =>rw[Bfo,Bet,An (by omega) (by omega),Bf2];exact ih (i+1) F (by omega) (by omega)
theorem Mt{r c:Int}{l:List Int}(h:Az r c l=true):l.length<=36:=by obtain⟨R,C,rfl,rfl,r6,c6,hl⟩:=Cp h;have:=Bfl r6 c6;omega
theorem D2.Check.Ae:Kq 69 D2.Check.spec:=Eb D2.Check.E Tryz.func69 (kc Aa.Check.Ae (kc soft.Finite.Ae .nil)) fun r c l hp=>by
 have hp:Ah l=true:=hp;refine⟨l.length+1,D2.Check.out [.i r,.i c,.l l],[],?_,.int⟩;show _=some (DV.int .i64 (Ci r c l));rw[D2.Check.ev];unfold Ny Ci Ds;by_cases h:Az r c l=true
 ·have:=Mt h;rw[Bfc h,Bfc h];have e:((0:Int) !=(0:Int))=false:=by decide
  rw[e,Bet];exact Ak9 _ (Gz hp (by omega)) l.length 0 (l.length+1) (by omega) (by omega)
 ·rw[Bfb h,Bfb h]; rfl
open Go Go.Den Go.Ct Go.Proofs Ieee
theorem Azt{m n:Nat}(hm:m≠0)(hn:n≠0)(lm:m<2^53)(ln:n<2^53)(i j:Int) :
 B9 (F4 m n (54+n.log2-m.log2)) (i-j-((54+n.log2-m.log2:Nat):Int)-1)=B9 (F4 m n 120) (i-j-121):=by
 have l1:=(Bf5 hm).2 lm;have a1:=zS hm;have a2:=Nat.lt_log2_self (n:=n)
 have g1:2^53<=m*2^(54+n.log2-m.log2) / n:=by
  rw[Nat.le_div_iff_mul_le (by omega)];have h1:2^m.log2*2^(54+n.log2-m.log2)<=m*2^(54+n.log2-m.log2):=Be1 _ a1
  have h2:2^m.log2*2^(54+n.log2-m.log2)=2^53*2^(n.log2+1):=by rw[<- Bfe,<- Bfe];congr 1;omega
  have h3:2^53*n<=2^53*2^(n.log2+1):=Nat.mul_le_mul_left _ (by omega);omega
 have g2:2^53<=m*2^120 / n:=Azu (t:=53) (by omega) (by omega) ln (by omega);exact(Ad7 (by omega) g1 g2 (by omega)).1
theorem A4e(s t:Bool)(m:Nat)(i:Int)(n:Nat)(j:Int)(hn:n≠0):(Datum.number s m i).quotient 54 (.number t n j) =
 some (.number (s ^^ t) (F4 m n (54+n.log2-m.log2)) (i-j-((54+n.log2-m.log2:Nat):Int)-1)):=by
 have e:(Datum.number s m i).quotient 54 (.number t n j)=some (.number (s ^^ t) (2*(m <<< (54+n.log2-m.log2) / n)+(m <<< (54+n.log2-m.log2)%n !=0).toNat) (i-j-((54+n.log2-m.log2:Nat):Int)-1)):=Bfb hn;rw[e,Nat.shiftLeft_eq];unfold F4;congr 3;by_cases h:m*2^(54+n.log2-m.log2)%n=0
 ·rw[Bfc h,h]; rfl
 ·have:(m*2^(54+n.log2-m.log2)%n !=0)=true:=by simpa using h
  rw[Bfb h,this]; rfl
theorem A1w{a b:Nat}(ha:a<2^64)(hb:b<2^64){d:Nat}(hd:Ag d=4):E5 ((Ieee.double.div a b).getD d)=(Ok a b).1:=by
 have cd:E5 d=P1:=Bfc hd;have ex:∀s t:Bool,(s ^^ t)=(s !=t):=fun s t=>by cases s<;>cases t<;>rfl
 have e54:Ieee.double.fractionBits+2=54:=rfl;unfold Format.div;rw[K7 ha,K7 hb,e54];unfold Ok;by_cases a4:Ag a=4
 ·rw[Bfc (.inl a4),Jc a4]; exact cd
 ·by_cases b4:Ag b=4
  ·rw[Bfc (.inr b4),Jc b4];by_cases a3:Ag a=3
   ·rw[F2 a3]; exact cd
   ·rw[F1 a3 a4]; exact cd
  ·rw[Bfb (fun h=>h.elim a4 b4)];by_cases a3:Ag a=3
   ·rw[F2 a3];by_cases b3:Ag b=3
    ·rw[F2 b3,Bfc ⟨by omega,.inl a3⟩]; exact cd
    ·rw[F1 b3 b4,Bfb (by omega),Bfc a3];show E5 (Bf (Be a ^^ Be b) Ea)=_;rw[Go.Proofs.S1.Om,ex]
   ·rw[F1 a3 a4];by_cases b3:Ag b=3
    ·rw[F2 b3,Bfb (by omega),Bfb a3,Bfc (.inl b3)];show E5 (Ieee.double.write (.number (Be a ^^ Be b) 0 0))=_;rw[Qj,Wf,ex];exact Iv _ (Nat.zero_le _)
    ·rw[F1 b3 b4];have za:=Zm a3 a4;have zb:=Zm b3 b4;by_cases b0:Ag b=0
     ·by_cases a0:Ag a=0
      ·have e:(Datum.number (Be a) (Ap a) (Aw a)).quotient 54 (.number (Be b) (Ap b) (Aw b))=none:=by show(if Ap b=0 then (if Ap a=0 then none else _) else _)=_;rw[Bfc (zb.2 b0),Bfc (za.2 a0)]
       rw[e,Bfc ⟨by omega,.inr a0⟩]; exact cd
      ·have e:(Datum.number (Be a) (Ap a) (Aw a)).quotient 54 (.number (Be b) (Ap b) (Aw b))=some (.infinity (Be a ^^ Be b)):=by show(if Ap b=0 then (if Ap a=0 then none else _) else _)=_;rw[Bfc (zb.2 b0),Bfb (fun k=>a0 (za.1 k))]
       rw[e,Bfb (by omega),Bfb a3,Bfb (by omega),Bfc b0];show E5 (Bf (Be a ^^ Be b) Ea)=_;rw[Go.Proofs.S1.Om,ex]
     ·have hn:Ap b≠0:=fun k=>b0 (zb.1 k)
      rw[A4e _ _ _ _ _ _ hn,Bfb (by omega),Bfb a3];show E5 (Ieee.double.write (.number _ _ _))=_;rw[Qj,Iv _ (K5 _ _),ex];by_cases a0:Ag a=0
      ·rw[Bfc (.inr a0),za.2 a0]
       have:F4 0 (Ap b) (54+(Ap b).log2-Nat.log2 0)=0:=by unfold F4;rw[Nat.zero_mul,Nat.zero_div,Nat.zero_mod,Bfc rfl]
       rw[this,Wf]
      ·have hm:Ap a≠0:=fun k=>a0 (za.1 k)
       have la:=F8 a;have lb:=F8 b;rw[Bfb (by omega),Bfb b0,Azt hm hn (by omega) (by omega)]
def root.Lg.hint:Nat->Option A9
 | 0=>some { keep:=[0,4,5,6,14],objs:=[],boxes:=[] }
 | _=>none
def root.Lg.E:=C6 (Cw []) (fun _=>false) root.Lg.hint (fun _=>none)
section
variable(N M:Nat)(m p4 p5 p6 p14:Int)
def root.Lg.L0:Option DV:=B2 root.Lg.E N f211 (Aj f211) [1,1,0,1,0] [] M ⟨F3 68 [(0,.int .u64 m),(4,.int .u64 p4),(5,.int .u64 p5),(6,.int .u64 p6),(14,.int .i64 p14)],[]⟩
theorem root.Lg.Ar:root.Lg.L0 N (M+1) m p4 p5 p6 p14=cond (Bc p14 64) (bif (Bc p14 32) then cond (decide (0<=(Ad ((62:Int)-(Ad ((2:Int)*p14)))))) (bif (decide ((I9 (Kc .u64 (Cj .u64 p6 2) (Gl .u64 (Eo .u64 m (Ad ((62:Int)-(Ad ((2:Int)*p14))))) 3)) (Kc .u64 (Cj .u64 p4 2) 1) 0)<=1)) then cond ((I9 (Kc .u64 (Cj .u64 p5 2) (Eo .u64 p6 62)) (Eo .u64 p4 62) (I9 (Kc .u64 (Cj .u64 p6 2) (Gl .u64 (Eo .u64 m (Ad ((62:Int)-(Ad ((2:Int)*p14))))) 3)) (Kc .u64 (Cj .u64 p4 2) 1) 0))==(0:Int)) (root.Lg.L0 N M m (Kc .u64 (Cj .u64 p4 1) 1) (Rp (Kc .u64 (Cj .u64 p5 2) (Eo .u64 p6 62)) (Eo .u64 p4 62) (I9 (Kc .u64 (Cj .u64 p6 2) (Gl .u64 (Eo .u64 m (Ad ((62:Int)-(Ad ((2:Int)*p14))))) 3)) (Kc .u64 (Cj .u64 p4 2) 1) 0)) (Rp (Kc .u64 (Cj .u64 p6 2) (Gl .u64 (Eo .u64 m (Ad ((62:Int)-(Ad ((2:Int)*p14))))) 3)) (Kc .u64 (Cj .u64 p4 2) 1) 0) (Ad (p14+1))) (root.Lg.L0 N M m (Cj .u64 p4 1) (Kc .u64 (Cj .u64 p5 2) (Eo .u64 p6 62)) (Kc .u64 (Cj .u64 p6 2) (Gl .u64 (Eo .u64 m (Ad ((62:Int)-(Ad ((2:Int)*p14))))) 3)) (Ad (p14+1))) else none) none else bif (decide ((I9 (Kc .u64 (Cj .u64 p6 2) 0) (Kc .u64 (Cj .u64 p4 2) 1) 0)<=1)) then cond ((I9 (Kc .u64 (Cj .u64 p5 2) (Eo .u64 p6 62)) (Eo .u64 p4 62) (I9 (Kc .u64 (Cj .u64 p6 2) 0) (Kc .u64 (Cj .u64 p4 2) 1) 0))==(0:Int)) (root.Lg.L0 N M m (Kc .u64 (Cj .u64 p4 1) 1) (Rp (Kc .u64 (Cj .u64 p5 2) (Eo .u64 p6 62)) (Eo .u64 p4 62) (I9 (Kc .u64 (Cj .u64 p6 2) 0) (Kc .u64 (Cj .u64 p4 2) 1) 0)) (Rp (Kc .u64 (Cj .u64 p6 2) 0) (Kc .u64 (Cj .u64 p4 2) 1) 0) (Ad (p14+1))) (root.Lg.L0 N M m (Cj .u64 p4 1) (Kc .u64 (Cj .u64 p5 2) (Eo .u64 p6 62)) (Kc .u64 (Cj .u64 p6 2) 0) (Ad (p14+1))) else none) (some (.tup [.int .u64 p4,.bool (cond (p5==(0:Int)) (p6==(0:Int)) false)])) :=Et (Es rfl (Ax (Un (p5==(0:Int))) (Ax (P7 (p5==(0:Int))) (Ax (tt2 (p5==(0:Int))) rfl))))
theorem root.Lg.ev:Bv root.Lg.E N f211 (Aj f211) [.int .u64 m] =
 root.Lg.L0 N N m 0 0 0 0:=by kernel_rfl
end
def root.Sqrt.hint:Nat->Option A9
 | 5=>some { keep:=[5,7,9],objs:=[],boxes:=[] }
 | _=>none
def root.Sqrt.E:=C6 (Cw [(210,Ew.Di.spec),(211,root.Lg.spec),(165,soft.Kind.spec),(180,soft.Ex.spec),(166,soft.Hg.spec),(181,soft.Sign.spec)]) (fun _=>false) root.Sqrt.hint (fun _=>none)
section
variable(N:Nat)(a:Int)(M:Nat)(p5 p7:Int)(p9:Bool)
def root.Sqrt.L0:Option DV:=B2 root.Sqrt.E N f176 (Aj f176) [1,1,1,1,1,1,1,1,1,0,0] [] M ⟨F3 73 [(5,.int .i64 p5),(7,.int .u64 p7),(9,.bool p9)],[]⟩
theorem root.Sqrt.Ar:root.Sqrt.L0 N (M+1) p5 p7 p9=cond (Fb 4611686018427387904 p7) (root.Sqrt.L0 N M (Ad (p5+2)) (Eo .u64 p7 1) (cond p9 true ((Gl .u64 p7 1)==(1:Int)))) (bif (F0 p7 (Ad ((Ad (zB p5 2))-32)) p9) then some (.tup [.int .u64 (Gr false p7 (Ad ((Ad (zB p5 2))-32)) p9),.int .u8 (Gq false p7 (Ad ((Ad (zB p5 2))-32)) p9)]) else none) :=Et (Es (Ax (Uw p9) (Ax (Te p9) (Ax (Te p9) (Ax (tt6 p9) rfl)))) rfl)
theorem root.Sqrt.ev:Bv root.Sqrt.E N f176 (Aj f176) [.int .u64 a]=cond (Af a) (bif ((Bb a)==(4:Int)) then some (.tup [.int .u64 9221120237041090560,.int .u8 0]) else bif (Af a) then cond ((Bb a)==(0:Int)) (some (.tup [.int .u64 a,.int .u8 0])) (bif (a==(9218868437227405312:Int)) then some (.tup [.int .u64 a,.int .u8 0]) else bif (Af a) then cond (En a) (some (.tup [.int .u64 9221120237041090560,.int .u8 16])) (bif (Af a) then cond (Af (B4 a)) (bif ((zE (Ad ((Bn a)-(Ad ((64-Gt (B4 a))-2)))) 2) !=(0:Int)) then cond (decide (0<=(Ad ((Ad ((64-Gt (B4 a))-2))-1)))) (bif (Bq (0<=(Cj .u64 (B4 a) (Ad ((Ad ((64-Gt (B4 a))-2))-1)))/\(Cj .u64 (B4 a) (Ad ((Ad ((64-Gt (B4 a))-2))-1)))<9223372036854775808)) then root.Sqrt.L0 N N (Ad ((Bn a)-(Ad ((Ad ((64-Gt (B4 a))-2))-1)))) (Zy (Cj .u64 (B4 a) (Ad ((Ad ((64-Gt (B4 a))-2))-1)))) (!(Zz (Cj .u64 (B4 a) (Ad ((Ad ((64-Gt (B4 a))-2))-1))))) else none) none else bif (decide (0<=(Ad ((64-Gt (B4 a))-2)))) then cond (Bq (0<=(Cj .u64 (B4 a) (Ad ((64-Gt (B4 a))-2)))/\(Cj .u64 (B4 a) (Ad ((64-Gt (B4 a))-2)))<9223372036854775808)) (root.Sqrt.L0 N N (Ad ((Bn a)-(Ad ((64-Gt (B4 a))-2)))) (Zy (Cj .u64 (B4 a) (Ad ((64-Gt (B4 a))-2)))) (!(Zz (Cj .u64 (B4 a) (Ad ((64-Gt (B4 a))-2)))))) none else none) none else none) else none) else none) none:=by kernel_rfl
end
def Ai.Sqrt.E:=E0 [(176,root.Sqrt.spec)]
theorem Ai.Sqrt.ev(N:Nat)(a:Int):Bv Ai.Sqrt.E N f139 (Aj f139) [.int .u64 a]=cond (Af a) (some (.int .u64 (Dt a))) none:=by kernel_rfl
def compare.Tc.E:=E0 [(167,Ew.N2.spec),(136,soft.Finite.spec),(165,soft.Kind.spec),(166,soft.Hg.spec)]
theorem compare.Tc.ev(N:Nat)(a:Int):Bv compare.Tc.E N f123 (Aj f123) [.int .u64 a]=cond (Af a) (bif ((!(Dl a))||(Af a)) then cond ((!(Dl a))||((Bb a)==(0:Int))) (some (.int .i64 0)) (bif (Af a) then cond (Af (B4 a)) (some (.int .i64 (Ad ((Ad ((Gt (B4 a))-1))+(Bn a))))) none else none) else none) none :=Et (Es (Ax (Xw (Dl a)) (Co (Apl _ _) (Ax (R7 (Dl a)) (Ax (Aau (Dl a)) (Co (A7g _ _) rfl rfl))) rfl)) rfl)
def Ai.Norm.hint:Nat->Option A9
 | 0=>some { keep:=[5,6,25,26,27],objs:=[],boxes:=[] }
 | _=>none
def Ai.Norm.E:=C6 (Cw [(123,compare.Tc.spec),(136,soft.Finite.spec),(137,Ai.Add.spec),(124,Ai.Ck.spec),(138,Ai.Mul.spec),(79,Ai.Cc.spec),(139,Ai.Sqrt.spec)]) (fun _=>false) Ai.Norm.hint (fun _=>none)
section
variable(N M:Nat)(x:List Int)(p6 p27:Int)
def Ai.Norm.L0:Option DV:=B2 Ai.Norm.E N f67 (Aj f67) [1,1,1,1,1,1,0,1,0] [] M ⟨F3 45 [(5,.int .i64 (Bs (Bi x))),(6,.int .u64 p6),(25,.ints .arg .u64 x),(26,.int .i64 (length x:Int)),(27,.int .i64 p27)],[]⟩
theorem Ai.Norm.Ar:Ai.Norm.L0 N (M+1) x p6 p27=cond (Bc p27 (length x:Int)) (bif ((decide (0<=p27))&&(decide (p27<(length x:Int)))) then cond (Dk (getD x (toNat p27) 0) (Ad (0-(Bs (Bi x))))) (bif (Af (A7 (getD x (toNat p27) 0) (Ad (0-(Bs (Bi x)))))&&Af (A7 (getD x (toNat p27) 0) (Ad (0-(Bs (Bi x)))))) then cond (Af p6&&Af (Bz (A7 (getD x (toNat p27) 0) (Ad (0-(Bs (Bi x))))) (A7 (getD x (toNat p27) 0) (Ad (0-(Bs (Bi x))))))) (Ai.Norm.L0 N M x (De p6 (Bz (A7 (getD x (toNat p27) 0) (Ad (0-(Bs (Bi x))))) (A7 (getD x (toNat p27) 0) (Ad (0-(Bs (Bi x))))))) (Ad (p27+1))) none else none) none else none) (bif (Af p6) then cond (Dk (Dt p6) (Bs (Bi x))) (some (.tup [.int .u64 (A7 (Dt p6) (Bs (Bi x))),.int .i64 0])) none else none):=by kernel_rfl
theorem Ai.Norm.ev:Bv Ai.Norm.E N f67 (Aj f67) [.ints .arg .u64 x]=cond (Bc 64 (length x:Int)) (some (.tup [.int .u64 0,.int .i64 3])) (bif (By x) then cond (((Bi x)==(0:Int))||(Af (Bi x))) (bif (((Bi x)==(0:Int))||(!(Dl (Bi x)))) then some (.tup [.int .u64 (Bi x),.int .i64 0]) else bif (Af (Bi x)) then Ai.Norm.L0 N N x 0 (0:Int) else none) none else none) :=Et (Es rfl (Es (Ax (Uw ((Bi x)==(0:Int))) (Co (A3k _ _) (Ax (Te ((Bi x)==(0:Int))) (Ax (tt6 ((Bi x)==(0:Int))) (Co (Bac _ _) rfl rfl))) rfl)) rfl))
end
theorem Vv(n s:Nat)(h:s<=64):Eo .u64 (n:Int) (s:Int)=((n / 2^s:Nat):Int):=J3 .u64 n s h
theorem sh2{n t:Nat}(ht:t<4):Kc .u64 (Cj .u64 (n:Int) (2:Int)) (t:Int)=((n%2^62*4+t:Nat):Int):=by rw[show(2:Int)=((2:Nat):Int) from rfl,He n 2 (by decide),show n*2^2%2^64=(n%2^62)*2^2 by omega];exact Rf ht (by omega)
theorem sh1{n:Nat}(h:n<2^63):Cj .u64 (n:Int) (1:Int)=((2*n:Nat):Int):=by rw[show(1:Int)=((1:Nat):Int) from rfl,He n 1 (by decide)];congr 1; omega
theorem Bdq{n:Nat}(h:n<2^63):Kc .u64 (Cj .u64 (n:Int) (1:Int)) (1:Int)=((2*n+1:Nat):Int):=by rw[show(1:Int)=((1:Nat):Int) from rfl,He n 1 (by decide),show n*2^1%2^64=n*2^1 by omega,Bfd 2 n];exact Rf (k:=1) (by decide) (by omega)
theorem Ayf{m i:Nat}(hi:i<32):Gl .u64 (Eo .u64 (m:Int) (Ad ((62:Int)-(Ad ((2:Int)*(i:Int)))))) (3:Int)=((m / 2^(62-2*i)%2^64%4:Nat):Int)\/2^64<=m:=by
 by_cases hm:m<2^64
 ·left;rw[An (x:=(2:Int)*(i:Int)) (by omega) (by omega),An (x:=(62:Int)-2*(i:Int)) (by omega) (by omega),show(62:Int)-2*(i:Int)=((62-2*i:Nat):Int) by omega,Vv _ _ (by omega)];have hd:m / 2^(62-2*i)<2^64:=Bfr (yJ _ _) hm;rw[show(3:Int)=((2^2-1:Nat):Int) from rfl,Li 2 hd (by decide)];congr 1;omega
 ·right; omega
def W8(m i:Nat):Nat:=m*2^64 / 2^(128-2*i)
theorem Azy{m i:Nat}(hi:i<32):W8 m (i+1)=4*W8 m i+m / 2^(62-2*i)%4:=by
 unfold W8;have e1:128-2*i=64+(64-2*i):=by omega
 have e2:128-2*(i+1)=64+(62-2*i):=by omega
 rw[e1,e2,Bfe,Bfe,Bfd (2^64),Bfd (2^64),wj _ _ (by decide),wj _ _ (by decide),show 64-2*i=(62-2*i)+2 by omega,Bfe,<- Bfi];omega
theorem Avt{m i:Nat}(hi:32<=i)(h:i<64):W8 m (i+1)=4*W8 m i:=by
 unfold W8;have e1:(2:Nat)^64=2^(2*i-64)*2^(128-2*i):=by rw[<- Bfe]; congr 1; omega
 have e2:(2:Nat)^64=2^(2*i-64)*4*2^(128-2*(i+1)):=by rw[show(4:Nat)=2^2 from rfl,<- Bfe,<- Bfe]; congr 1; omega
 have a1:m*2^64 / 2^(128-2*i)=m*2^(2*i-64):=by rw[e1,<- Bfg,wo _ (Cm _)]
 have a2:m*2^64 / 2^(128-2*(i+1))=m*(2^(2*i-64)*4):=by rw[e2,<- Bfg,wo _ (Cm _)]
 rw[a1,a2,<- Bfg,Bfd 4]
theorem A3z{A B tl th:Nat}(hA:A<2^64)(htl:tl<2^64)(hB:B<2^64)(hth:th<4) :
 (I9 (A:Int) (tl:Int) (0:Int)=0\/I9 (A:Int) (tl:Int) (0:Int)=1) /\
 (th*2^64+tl<=B*2^64+A->(I9 (B:Int) (th:Int) (I9 (A:Int) (tl:Int) (0:Int))==(0:Int))=true /\
  ∃h l:Nat,Rp (B:Int) (th:Int) (I9 (A:Int) (tl:Int) (0:Int))=(h:Int)/\Rp (A:Int) (tl:Int) (0:Int)=(l:Int)/\l<2^64/\h*2^64+l=B*2^64+A-(th*2^64+tl)) /\
 (B*2^64+A<th*2^64+tl->(I9 (B:Int) (th:Int) (I9 (A:Int) (tl:Int) (0:Int))==(0:Int))=false):=by
 have e1:I9 (A:Int) (tl:Int) (0:Int)=((if A<tl then 1 else 0:Nat):Int):=by unfold I9;rw[Ber,Ber];rfl
 by_cases h:A<tl
 ·rw[Bfc h] at e1;rw[e1]
  have e2:I9 (B:Int) (th:Int) ((1:Nat):Int)=((if B<th+1 then 1 else 0:Nat):Int):=by unfold I9;rw[Ber,Ber];rfl
  refine⟨.inr rfl,fun hle=>?_,fun hlt=>?_⟩
  ·rw[Bfb (by omega)] at e2;rw[e2];refine⟨rfl,B-th-1,A+2^64-tl,?_,?_,by omega,by omega⟩
   ·unfold Rp;rw[Ber,Ber,Ber];congr 1; omega
   ·unfold Rp;rw[Ber,Ber];show((_:Nat):Int)=_;congr 1;show(A+18446744073709551616-tl-0)%18446744073709551616=_;omega
  ·rw[Bfc (by omega)] at e2;rw[e2]; rfl
 ·rw[Bfb h] at e1;rw[e1]
  have e2:I9 (B:Int) (th:Int) ((0:Nat):Int)=((if B<th then 1 else 0:Nat):Int):=by unfold I9;rw[Ber,Ber];rfl
  refine⟨.inl rfl,fun hle=>?_,fun hlt=>?_⟩
  ·rw[Bfb (by omega)] at e2;rw[e2];refine⟨rfl,B-th,A-tl,?_,?_,by omega,by omega⟩
   ·unfold Rp;rw[Ber,Ber,Ber];congr 1; omega
   ·unfold Rp;rw[Ber,Ber];show((_:Nat):Int)=_;congr 1;show(A+18446744073709551616-tl-0)%18446744073709551616=_;omega
  ·rw[Bfc (by omega)] at e2;rw[e2]; rfl
theorem glue(n t:Nat):n / 2^62*2^64+(n%2^62*4+t)=4*n+t:=by omega
theorem Awh(N:Nat){m:Nat}(hm:m<2^63):∀(k i F rt rest:Nat),i+k=64->k<F->W8 m i=rt*rt+rest->rest<=2*rt->rt<2^i->∀hi lo:Nat,hi*2^64+lo=rest->lo<2^64 ->
 root.Lg.L0 N F (m:Int) (rt:Int) (hi:Int) (lo:Int) (i:Int)=some (.tup [.int .u64 (Zy m),.bool (Zz m)]):=by
 intro k
 induction k with
 | zero =>
   intro i F rt rest hi hF hP hr hb h l e hl;obtain⟨F,rfl⟩:∃G,F=G+1:=⟨F-1,by omega⟩
   obtain rfl:i=64:=by omega
   have hP':m*2^64=rt*rt+rest:=by rw[<- hP]; unfold W8;rw[show 128-2*64=0 from rfl,Bfn,yT]
   have hroot:=A39 hP' hr;rw[root.Lg.Ar,As,Beu (by omega),Bet];have e1:Zy (m:Int)=(rt:Int):=by unfold Zy; rw[Ber,<- hroot]
   have e2:Zz (m:Int)=(cond ((h:Int)==(0:Int)) ((l:Int)==(0:Int)) false):=by
    unfold Zz;rw[Ber,<- hroot,hP'];by_cases h0:h=0
    ·subst h0;rw[show(((0:Nat):Int)==(0:Int))=true from rfl,Bep,Be5,Bew,beq_iff_eq];omega
    ·rw[show((h:Int)==(0:Int))=false by rw[Bfk]; omega,Bet,Beu];omega
   rw[e1,e2]
 | succ k ih =>
   intro i F rt rest hi hF hP hr hb h l e hl;obtain⟨F,rfl⟩:∃G,F=G+1:=⟨F-1,by omega⟩
   have hp:2^i<=2^63:=Be4 (by decide) (by omega);have hi63:2^(i+1)=2*2^i:=by rw[zD,Bfd]
   have f1:2*rt+1<2^(i+1):=by rw[hi63]; omega
   have f2:2*rt<2^(i+1):=by omega
   have hh:h=0:=by omega
   subst hh;have hrest:rest=l:=by omega
   subst hrest
   obtain⟨two,t4,hP',hcode⟩:∃two:Nat,two<4/\W8 m (i+1)=4*W8 m i+two /\
    root.Lg.L0 N (F+1) (m:Int) (rt:Int) ((0:Nat):Int) (rest:Int) (i:Int) =
    (bif (decide ((I9 (Kc .u64 (Cj .u64 (rest:Int) (2:Int)) (two:Int)) (Kc .u64 (Cj .u64 (rt:Int) (2:Int)) (1:Int)) (0:Int))<=1)) then
     bif ((I9 (Kc .u64 (Cj .u64 ((0:Nat):Int) (2:Int)) (Eo .u64 (rest:Int) (62:Int))) (Eo .u64 (rt:Int) (62:Int)) (I9 (Kc .u64 (Cj .u64 (rest:Int) (2:Int)) (two:Int)) (Kc .u64 (Cj .u64 (rt:Int) (2:Int)) (1:Int)) (0:Int)))==(0:Int)) then
      root.Lg.L0 N F (m:Int) (Kc .u64 (Cj .u64 (rt:Int) (1:Int)) (1:Int)) (Rp (Kc .u64 (Cj .u64 ((0:Nat):Int) (2:Int)) (Eo .u64 (rest:Int) (62:Int))) (Eo .u64 (rt:Int) (62:Int)) (I9 (Kc .u64 (Cj .u64 (rest:Int) (2:Int)) (two:Int)) (Kc .u64 (Cj .u64 (rt:Int) (2:Int)) (1:Int)) (0:Int))) (Rp (Kc .u64 (Cj .u64 (rest:Int) (2:Int)) (two:Int)) (Kc .u64 (Cj .u64 (rt:Int) (2:Int)) (1:Int)) (0:Int)) (Ad ((i:Int)+(1:Int)))
     else root.Lg.L0 N F (m:Int) (Cj .u64 (rt:Int) (1:Int)) (Kc .u64 (Cj .u64 ((0:Nat):Int) (2:Int)) (Eo .u64 (rest:Int) (62:Int))) (Kc .u64 (Cj .u64 (rest:Int) (2:Int)) (two:Int)) (Ad ((i:Int)+(1:Int)))
    else none):=by
    by_cases h32:i<32
    ·refine⟨m / 2^(62-2*i)%4,zv _ (by decide),Azy h32,?_⟩;have ht:=(Ayf (m:=m) h32).resolve_right (by omega);have hq:m / 2^(62-2*i)%2^64%4=m / 2^(62-2*i)%4:=by omega
     rw[hq] at ht;rw[root.Lg.Ar,As,Beq (show(i:Int)<64 by omega),Bep,As,Beq (show(i:Int)<32 by omega),Bep,ht,An (x:=(2:Int)*(i:Int)) (by omega) (by omega),An (x:=(62:Int)-2*(i:Int)) (by omega) (by omega),Beq (show(0:Int)<=62-2*(i:Int) by omega),Bep]
    ·refine⟨0,by decide,by rw[Avt (by omega) (by omega),Bfx],?_⟩;rw[root.Lg.Ar,As,Beq (show(i:Int)<64 by omega),Bep,As,Beu (show ¬(i:Int)<32 by omega),Bet];rfl
   obtain⟨s1,s2⟩:=Arp hP hr t4;have eA:=sh2 (n:=rest) t4;have eT:=sh2 (n:=rt) (t:=1) (by decide)
   have eB:Kc .u64 (Cj .u64 ((0:Nat):Int) (2:Int)) (Eo .u64 (rest:Int) (62:Int))=((rest / 2^62:Nat):Int):=by rw[show(62:Int)=((62:Nat):Int) from rfl,Vv _ _ (by decide),sh2 (n:=0) (t:=rest / 2^62) (by omega)];congr 1; omega
   have eH:Eo .u64 (rt:Int) (62:Int)=((rt / 2^62:Nat):Int):=by rw[show(62:Int)=((62:Nat):Int) from rfl,Vv _ _ (by decide)]
   have eT':Kc .u64 (Cj .u64 (rt:Int) (2:Int)) (1:Int)=((rt%2^62*4+1:Nat):Int):=eT;obtain⟨b1,b2,b3⟩:=A3z (A:=rest%2^62*4+two) (B:=rest / 2^62) (tl:=rt%2^62*4+1) (th:=rt / 2^62) (by omega) (by omega) (by omega) (by omega);rw[hcode,eA,eT',eB,eH,Beq (by rcases b1 with b | b<;>rw[b]<;>decide),Bep,An (by omega) (by omega)];by_cases hc:4*rt+1<=4*rest+two
   ·obtain⟨c1,hh,ll,c2,c3,c4,c5⟩:=b2 (by rw[glue,glue]; exact hc);obtain⟨d1,d2⟩:=s1 hc;rw[c1,Bep,c2,c3,Bdq (by omega)];refine ih (i+1) F (2*rt+1) (4*rest+two-(4*rt+1)) (by omega) (by omega) (hP'.trans d1) d2 f1 hh ll ?_ c4;rw[c5,glue,glue]
   ·rw[b3 (by rw[glue,glue]; omega),Bet,sh1 (by omega)];obtain⟨d1,d2⟩:=s2 (by omega);refine ih (i+1) F (2*rt) (4*rest+two) (by omega) (by omega) (hP'.trans d1) d2 f2 _ _ (glue _ _) ?_;clear hcode;omega
theorem root.Lg.Ae:Kq 211 root.Lg.spec:=Eb root.Lg.E Tryz.func211 .nil fun m hp=>by
 have hp:=Ak.1 hp;obtain⟨n,rfl⟩:∃n:Nat,m=n:=⟨m.toNat,by omega⟩
 refine⟨65,root.Lg.out [.i n],[],?_,Wk.Ik (.cons .int (.cons .bool .nil))⟩;rw[root.Lg.ev]
 have h0:W8 n 0=0*0+0:=by unfold W8;rw[yc];show n*18446744073709551616<340282366920938463463374607431768211456;omega
 exact Awh 65 (by omega) 64 0 65 0 0 rfl (by omega) h0 (Bfj 0) Nat.one_pos 0 0 rfl (Nat.pow_pos (by decide))
theorem Afh{b:Nat}(h:Ap b≠0):Gt (Ap b:Int)=((Ap b).log2:Int)+1:=by unfold Gt;rw[Bfb (by omega),Ber]
theorem Au1{w:Nat}{E:Int}{s:Bool}(hw:2^62<=w)(n:Nat)(h:N5 n=w)(hs:s=decide (w*w≠n)) :
 Ie false (w / 2) (E+2) (cond s true (decide (w%2=1)))=(B9 (Ff n) E,flagsOf (Ff n) E):=by
 have e1:Ff n / 2^2=w / 2:=by unfold Ff; rw[h]; split<;>omega
 have e2:(cond s true (decide (w%2=1)))=decide (Ff n%2^2≠0):=by
  rw[hs];unfold Ff;rw[h];by_cases h0:w*w=n
  ·rw[Beu (by omega),Bet,Bfc h0,decide_eq_decide]; omega
  ·rw[Beq h0,Bep,Bfb h0]; symm; exact Beq (by omega)
 rw[<- e1];have:=Zo false (V:=Ff n) (k:=2) (E:=E) (e:=E+2) rfl e2 (by rw[e1]; omega) (by left; rw[e1]; omega);rw[G0] at this;exact this
theorem root.Sqrt.num{b:Nat}(hb:b<2^64)(h4:Ag b≠4)(h:¬(Ag b=0\/b=Ea))(hn:Be b=false){z:Nat}(hz:2^60<=Ap b*2^z)(hz2:Ap b*2^z<2^62)(he:(Aw b-(z:Int))%2=0)(z60:z<=62) :
 root.Sqrt.L0 2 2 (Aw b-(z:Int)) (Zy ((Ap b*2^z:Nat):Int)) (!(Zz ((Ap b*2^z:Nat):Int)))=some (.tup [.int .u64 (Dt (b:Int)),.int .u8 (Uz (b:Int))]):=by
 have hE:=Da b;have hM:=F8 b
 have h3:Ag b≠3:=fun h3=>by
  refine h (.inr ?_);have hpn:Be b=false:=hn;unfold Be at hpn;have hlt:b<2^63:=by simpa using hpn
  unfold Ag at h3;have hp:=K9 b;unfold D7 at h3;unfold Dc at h3;unfold Ea;split at h3
  ·split at h3
   ·omega
   ·omega
  ·split at h3
   ·omega
   ·split at h3<;>omega
 have hm:Ap b≠0:=fun h0=>h (.inl ((Du h3 h4).1 h0))
 have eN:Ap b*2^z*2^64=Ap b*2^(z+64):=by rw[Bfg,<- Bfe]
 have i1:2^62<=N5 (Ap b*2^z*2^64):=Z5 (t:=62) (by omega);have i2:=(Pa (Ap b*2^z*2^64)).1
 have i3:N5 (Ap b*2^z*2^64)<2^63:=by refine Amc (Bfr i2 ?_);show _<9223372036854775808*9223372036854775808;omega
 have r1:Zy ((Ap b*2^z:Nat):Int)=(N5 (Ap b*2^z*2^64):Int):=by unfold Zy; rw[Ber]
 have r2:(!(Zz ((Ap b*2^z:Nat):Int)))=decide (N5 (Ap b*2^z*2^64)*N5 (Ap b*2^z*2^64)≠Ap b*2^z*2^64):=by unfold Zz; rw[Ber,<- decide_not]
 obtain⟨k1,k2⟩:=U8 hm;have same:=Ah1 (m:=Ap b) (k:=z+64) (l:=Gn b) (E:=(Aw b-(z:Int)) / 2-33) (F:=(Aw b-(Gn b:Int)) / 2-1) (by rw[<- eN]; omega) k1 (by omega);rw[<- eN] at same;have near:=Au1 (E:=(Aw b-(z:Int)) / 2-33) i1 _ rfl r2;rw[same.1,same.2] at near;have sq:Hc b=_:=Sn h4 h hn;rw[r1,r2];rw[r2] at near;generalize N5 (Ap b*2^z*2^64)=w at *
 have w1:Fb (4611686018427387904:Int) (w:Int)=true:=by rw[Fs]; exact Beq (by omega)
 have w2:Eo .u64 (w:Int) (1:Int)=((w / 2:Nat):Int):=by rw[show(1:Int)=((1:Nat):Int) from rfl,Vv _ _ (by decide)]
 have w3:((Gl .u64 (w:Int) (1:Int))==(1:Int))=decide (w%2=1):=by rw[show Gl .u64 (w:Int) (1:Int)=((w%2^1:Nat):Int) from Li 1 (by omega) (by decide),Be5,beq_iff_eq,Bew];omega
 have w4:Fb (4611686018427387904:Int) ((w / 2:Nat):Int)=false:=by rw[Fs]; exact Beu (by omega)
 have w5:Ad (Ad (zB (Aw b-(z:Int)+2) 2)-32)=(Aw b-(z:Int)) / 2-33+2:=by
  have:zB (Aw b-(z:Int)+2) 2=(Aw b-(z:Int)) / 2+1:=by rw[Int.tdiv_eq_ediv];split<;>omega
  rw[this,An (x:=(Aw b-(z:Int)) / 2+1) (by omega) (by omega),An (by omega) (by omega)];omega
 have w6:Ad (Aw b-(z:Int)+2)=Aw b-(z:Int)+2:=An (by omega) (by omega);generalize hs:decide (w*w≠Ap b*2^z*2^64)=s at *
 have pre:F0 ((w / 2:Nat):Int) ((Aw b-(z:Int)) / 2-33+2) (cond s true (decide (w%2=1)))=true:=Ak.2 ⟨by omega,by omega,by omega,by omega,fun _=>.inl (by omega)⟩;rw[show(2:Nat)=1+1 from rfl,root.Sqrt.Ar,w1,Bep,w2,w3,w6,show(1:Nat)=0+1 from rfl,root.Sqrt.Ar,w4,Bet,w5,pre,Bep];unfold Gr Gq Dt Uz;rw[Ber,Ber,near,sq]
theorem root.Sqrt.Ae:Kq 176 root.Sqrt.spec:=Eb root.Sqrt.E Tryz.func176 (kc Ew.Di.Ae (kc root.Lg.Ae (kc soft.Kind.Ae (kc soft.Ex.Ae (kc soft.Hg.Ae (kc soft.Sign.Ae .nil)))))) fun a hp=>by
 obtain⟨b,rfl,hb⟩:=Bu (x:=a) hp;refine⟨2,root.Sqrt.out [.i b],[],?_,Wk.Ik (.cons .int (.cons .int .nil))⟩;show _=some (DV.tup [.int .u64 (Dt (b:Int)),.int .u8 (Uz (b:Int))]);have hk:Bb (b:Int)=(Ag b:Int):=rfl;rw[root.Sqrt.ev,Cr hb,Bep,Bep,Bep,Bep,hk];by_cases h4:Ag b=4
 ·rw[h4,show(((4:Nat):Int)==(4:Int))=true from rfl,Bep];unfold Dt Uz;rw[Ber,Y1 h4]; rfl
 have k4:(((Ag b:Nat):Int)==(4:Int))=false:=by rw[Bfk]; omega
 rw[k4,Bet];by_cases h0:Ag b=0
 ·rw[h0,show(((0:Nat):Int)==(0:Int))=true from rfl,Bep];unfold Dt Uz;rw[Ber,K0 h4 (.inl h0)]; rfl
 have k0:(((Ag b:Nat):Int)==(0:Int))=false:=by rw[Bfk]; omega
 rw[k0,Bet];by_cases hi:b=Ea
 ·rw[show(((b:Nat):Int)==(9218868437227405312:Int))=true by rw[hi]; rfl,Bep];unfold Dt Uz;rw[Ber,K0 h4 (.inr hi)]; rfl
 have ki:(((b:Nat):Int)==(9218868437227405312:Int))=false:=by rw[Bfk]; intro hh; refine hi (show b=9218868437227405312 from ?_); omega
 rw[ki,Bet];have hh:¬(Ag b=0\/b=Ea):=by rintro (h | h); exact h0 h; exact hi h
 have hneg:En (b:Int)=Be b:=rfl;rw[hneg];cases hn:Be b with
 | true =>rw[Bep];unfold Dt Uz;rw[Ber,Y0 h4 hh hn]; rfl
 | false =>
   rw[Bet]
   have hm:Ap b≠0:=fun hz=>by
    have h3:Ag b≠3:=fun h3=>by
     rcases Iu b with ⟨p,_,_⟩ | ⟨_,_,q⟩ | ⟨_,q,_⟩
     ·unfold Ap at hz;rw[Bfb (by omega)] at hz;omega
     ·omega
     ·exact q h3
    exact hh (.inl ((Du h3 h4).1 hz))
   have hM:=F8 b;have hE:=Da b;have hl:(Ap b).log2<=52:=by have:=(Bf5 hm).2 (show Ap b<2^53 by omega); omega
   have e1:B4 (b:Int)=(Ap b:Int):=rfl;have e2:Bn (b:Int)=Aw b:=rfl
   have l1:∀z:Nat,(Ap b).log2+z=60\/(Ap b).log2+z=61->2^60<=Ap b*2^z/\Ap b*2^z<2^62:=by
    intro z hz;have hlz:=O9 (Ap b) z hm;have hne:Ap b*2^z≠0:=Ko hm;constructor
    ·rw[<- zM hne]; omega
    ·rw[<- Bf5 hne]; omega
   have ez:Ad ((64-(((Ap b).log2:Int)+1))-(2:Int))=((61-(Ap b).log2:Nat):Int):=by rw[An (by omega) (by omega)]; omega
   have ez':Ad (((61-(Ap b).log2:Nat):Int)-(1:Int))=((60-(Ap b).log2:Nat):Int):=by rw[An (by omega) (by omega)]; omega
   rw[e1,e2,Cr (n:=Ap b) (by omega),Bep,Afh hm,ez,ez',An (x:=Aw b-((61-(Ap b).log2:Nat):Int)) (by omega) (by omega),An (x:=Aw b-((60-(Ap b).log2:Nat):Int)) (by omega) (by omega)];by_cases hp2:(Aw b-((61-(Ap b).log2:Nat):Int))%2=0
   ·have t0:(zE (Aw b-((61-(Ap b).log2:Nat):Int)) (2:Int) !=(0:Int))=false:=by rw[bne_eq_false_iff_eq]; exact Int.tmod_eq_zero_of_dvd (Int.dvd_of_emod_eq_zero hp2)
    obtain⟨m1,m2⟩:=l1 (61-(Ap b).log2) (by omega);rw[t0,Bet,Beq (by omega),Bep,He _ _ (by omega),Be2 (by omega),Ak.2 (by omega),Bep];exact root.Sqrt.num hb h4 hh hn m1 m2 hp2 (by omega)
   ·have t0:(zE (Aw b-((61-(Ap b).log2:Nat):Int)) (2:Int) !=(0:Int))=true:=by rw[bne_iff_ne]; intro hz; exact hp2 (Int.emod_eq_zero_of_dvd (Int.dvd_of_tmod_eq_zero hz))
    obtain⟨m1,m2⟩:=l1 (60-(Ap b).log2) (by omega);rw[t0,Bep,Beq (by omega),Bep,He _ _ (by omega),Be2 (by omega),Ak.2 (by omega),Bep];exact root.Sqrt.num hb h4 hh hn m1 m2 (by omega) (by omega)
theorem Ai.Sqrt.Ae:Kq 139 Ai.Sqrt.spec:=Eb Ai.Sqrt.E Tryz.func139 (kc root.Sqrt.Ae .nil) fun a hp=>by have hp:Af a=true:=hp;refine⟨0,Ai.Sqrt.out [.i a],[],?_,.int⟩;rw[Ai.Sqrt.ev,hp]; rfl
theorem compare.Tc.Ae:Kq 123 compare.Tc.spec:=Eb compare.Tc.E Tryz.func123 (kc Ew.N2.Ae (kc soft.Finite.Ae (kc soft.Kind.Ae (kc soft.Hg.Ae .nil)))) fun a hp=>by
 obtain⟨b,rfl,hb⟩:=Bu (x:=a) hp;refine⟨0,compare.Tc.out [.i b],[],?_,.int⟩;show _=some (DV.int .i64 (Bs (b:Int)));have hk:Bb (b:Int)=(Ag b:Int):=rfl;have hf:Dl (b:Int)=Iy b:=rfl;have hE:=Da b;have hM:=F8 b;rw[compare.Tc.ev,Cr hb,Bep,Bf1,Bep,hk,hf];unfold Bs;rw[Ber];unfold Pp;cases hfin:Iy b with
 | false=>rfl
 | true =>
   by_cases h0:Ag b=0
   ·rw[h0]; rfl
   ·have k0:(((Ag b:Nat):Int)==(0:Int))=false:=by rw[Bfk]; omega
    have hm:Ap b≠0:=fun hz=>by obtain⟨f4,f3⟩:=Kw hfin;exact h0 ((Du f3 f4).1 hz)
    have hl:(Ap b).log2<=52:=by have:=(Bf5 hm).2 (show Ap b<2^53 by omega); omega
    have e1:B4 (b:Int)=(Ap b:Int):=rfl;have e2:Bn (b:Int)=Aw b:=rfl;rw[k0,Bfc ⟨rfl,h0⟩,Bfo,yH,Bet,Bep,e1,e2,Cr (n:=Ap b) (by omega),Bep,Afh hm,An (x:=((Ap b).log2:Int)+1-1) (by omega) (by omega),An (by omega) (by omega)];congr 2; omega
theorem Ama{x:List Int}{i:Nat}(h:i<x.length)(k s:Int):Jz k s (x.drop i)=Jz k (De s (Bz (A7 (x.getD i 0) k) (A7 (x.getD i 0) k))) (x.drop (i+1)):=by rw[Lh h,Jz]
theorem Av1(N:Nat){x:List Int}(hx:By x=true)(hl:x.length<=1000):∀(k i F:Nat) (s:Int),i+k=x.length->k<F->Af s=true ->
 Ai.Norm.L0 N F x s (i:Int)=some (.tup [.int .u64 (A7 (Dt (Jz (-Bs (Bi x)) s (x.drop i))) (Bs (Bi x))),.int .i64 0]):=by
 obtain⟨_,hu⟩:=Jr hx;have he:=Yh (Bi x);intro k
 induction k with
 | zero =>
   intro i F s hi hF hs;obtain⟨F,rfl⟩:∃G,F=G+1:=⟨F-1,by omega⟩
   rw[Ai.Norm.Ar,As,Beu (by omega),Bet,hs,Bep,show Dk (Dt s) (Bs (Bi x))=true from Ac.2 ⟨Th hs,Ak.2 (by omega)⟩,Bep,Be3 (by omega)];rfl
 | succ k ih =>
   intro i F s hi hF hs;obtain⟨F,rfl⟩:∃G,F=G+1:=⟨F-1,by omega⟩
   rw[Ai.Norm.Ar,As,Beq (show(i:Int)<(x.length:Int) by omega),Bep,Beq (show(0:Int)<=(i:Int) by omega),Bev,Bep,Ber,An (x:=0-Bs (Bi x)) (by omega) (by omega),show(0:Int)-Bs (Bi x)=-Bs (Bi x) by omega,
    show Dk (getD x i 0) (-Bs (Bi x))=true from Ac.2 ⟨hu i (by omega),Ak.2 (by omega)⟩,Bep,Hs (hu i (by omega)),Bev,Bep,hs,Fc,Bev,Bep,Ama (by omega),An (by omega) (by omega)]
   exact ih (i+1) F _ (by omega) (by omega) (Pr hs (Fc _ _))
theorem Ai.Norm.Ae:Kq 67 Ai.Norm.spec:=Eb Ai.Norm.E Tryz.func67 (kc compare.Tc.Ae (kc soft.Finite.Ae (kc Ai.Add.Ae (kc Ai.Ck.Ae (kc Ai.Mul.Ae (kc Ai.Cc.Ae (kc Ai.Sqrt.Ae .nil))))))) fun x hp=>by
 obtain⟨hx,hl⟩:=Ac.1 (show(By x&&Bq (length x<=64))=true from hp);have hl:=Ak.1 hl;refine⟨65,Ai.Norm.out [.l x],[],?_,Wk.Ik (.cons .int (.cons .int .nil))⟩;show _=some (DV.tup [.int .u64 (Bk x),.int .i64 0]);rw[Ai.Norm.ev,As,Beu (by omega),Bet,hx,Bep,Sd,Bf1,Bep];unfold Bk;by_cases h:Bi x=0\/Dl (Bi x)=false
 ·have:((Bi x==(0:Int))||(!(Dl (Bi x))))=true:=by
   rcases h with h | h
   ·rw[h]; rfl
   ·rw[h,Bf8,Bf1]
  rw[this,Bep,Bfc h]
 ·have:((Bi x==(0:Int))||(!(Dl (Bi x))))=false:=by
   rw[Bool.or_eq_false_iff,Bfk,Bool.not_eq_false'];refine⟨fun h0=>h (.inl h0),?_⟩;cases hf:Dl (Bi x) with
   | true=>rfl
   | false=>exact absurd (.inr hf) h
  rw[this,Bet,Bep,Bfb h];exact Av1 65 hx (by omega) x.length 0 65 0 (by omega) (by omega) Md
end Go.Proofs.S1
namespace Go.Ct
open Go.Den
theorem p52:Ap 4841369599423283200=2^52/\Aw 4841369599423283200=0/\Ag 4841369599423283200=2/\Be 4841369599423283200=false:=by decide +kernel
theorem p53:Ap 4368491638549381120=2^52/\Aw 4368491638549381120=-105/\Ag 4368491638549381120=2/\Be 4368491638549381120=false:=by decide +kernel
theorem Amn{L:Int}{q:Nat}(b1:2^52<=q)(b2:q<2^53)(he:-1074<=L)(hi:L+1074<=2045):min ((L+1074).toNat*2^52+q) 9218868437227405312=(L+1075).toNat*2^52+(q-2^52):=by
 obtain⟨t,rfl⟩:∃t:Nat,L=t-1074:=⟨(L+1074).toNat,by omega⟩
 have e1:((t:Int)-1074+1074).toNat=t:=by omega
 have e2:((t:Int)-1074+1075).toNat=t+1:=by omega
 rw[e1,e2];omega
theorem Azc{m:Nat}(h0:m≠0)(h:m.log2<=52){e:Int}(he:-1074<=e+m.log2-52)(hi:e+m.log2-52+1074<=2045) :
 B9 m e=(e+m.log2-52+1075).toNat*2^52+(m*2^(52-m.log2)-2^52)/\2^52<=m*2^(52-m.log2)/\m*2^(52-m.log2)<2^53:=by
 have hl:=O9 m (52-m.log2) h0;have hne:m*2^(52-m.log2)≠0:=Ko h0;have b1:2^52<=m*2^(52-m.log2):=by rw[<- zM hne,hl]; omega
 have b2:m*2^(52-m.log2)<2^53:=by rw[<- Bf5 hne,hl]; omega
 have hs:=(D1 m (52-m.log2) e).1;have ee:e-((52-m.log2:Nat):Int)=e+m.log2-52:=by omega
 rw[ee] at hs;exact⟨hs.symm.trans ((Qn b1 b2 (by omega)).trans (Amn b1 b2 he hi)),b1,b2⟩
theorem Az9{x:Nat}(hx:x<2^64)(h3:Ag x≠3)(h4:Ag x≠4)(h0:Ag x≠0) :
 ∃P f d:Nat,1<=P/\P<=2046/\f<2^52/\Qc x=Bf (Be x) (P*2^52+f)/\f+2^52=Ap x*2^d/\(P:Int)-1075=Aw x-Ld x-d:=by
 have hf:=L8 x;have hp:=K9 x;have hm:Ap x≠0:=fun h=>h0 ((Du h3 h4).1 h)
 have hw:=Qm hx;have hab:E9 x=D7 x*2^52+Dc x:=by unfold E9 D7 Dc; omega
 have hp2:D7 x≠2047:=fun h=>by
  rcases Iu x with ⟨_,_,k⟩ | ⟨_,_,k⟩ | ⟨k,_,_⟩
  ·exact h3 k
  ·exact h4 k
  ·omega
 unfold Qc Ld;by_cases hs:E9 x<4503599627370496
 ·have hz:D7 x=0:=by omega
  have eM:Ap x=Dc x:=by unfold Ap; rw[Bfc hz]
  have eE:Aw x=-1074:=by unfold Aw; rw[Bfc hz]
  have hl:(Ap x).log2<=51:=by have:=(Bf5 hm).2 (show Ap x<2^52 by omega); omega
  rw[Bfc hs,Bfc hs];have hmul:=mul_pow h3 h4 (by rw[p52.2.2.1]; decide) (by rw[p52.2.2.1]; decide) p52.1 p52.2.2.2;rw[hmul,p52.2.1,eE];obtain⟨r1,r2,r3⟩:=Azc (e:=-1074+0+52) hm (by omega) (by omega) (by omega);refine⟨(Ap x).log2+1,Ap x*2^(52-(Ap x).log2)-2^52,52-(Ap x).log2,by omega,by omega,by omega,?_,by omega,by omega⟩;have ht:(-1074+0+52+((Ap x).log2:Int)-52+1075).toNat=(Ap x).log2+1:=by omega
  rw[ht] at r1;exact congrArg (Bf (Be x)) r1
 ·rw[Bfb hs,Bfb hs]
  have hz:D7 x≠0:=by intro h;rw[h] at hab;omega
  have eM:Ap x=Dc x+2^52:=by unfold Ap; rw[Bfb hz]
  have eE:Aw x=(D7 x:Int)-1075:=by unfold Aw; rw[Bfb hz]
  refine⟨D7 x,Dc x,0,by omega,by omega,hf,?_,by rw[eM,Bfn,Bfy],by omega⟩;rw[<- hab];exact hw.symm
theorem V4{s:Bool}{P f:Nat}(h1:1<=P)(h2:P<=2046)(hf:f<2^52) :
 D7 (Bf s (P*2^52+f))=P/\Dc (Bf s (P*2^52+f))=f/\Be (Bf s (P*2^52+f))=s/\Bf s (P*2^52+f)<2^64/\Ag (Bf s (P*2^52+f))=2 /\
 Ap (Bf s (P*2^52+f))=f+2^52/\Aw (Bf s (P*2^52+f))=(P:Int)-1075:=by
 have e1:D7 (Bf s (P*2^52+f))=P:=by
  unfold D7 Bf;cases s
  ·rw[Bfb (by decide)]; omega
  ·rw[Bfc rfl]; omega
 have e2:Dc (Bf s (P*2^52+f))=f:=by
  unfold Dc Bf;cases s
  ·rw[Bfb (by decide)]; omega
  ·rw[Bfc rfl]; omega
 have e3:Be (Bf s (P*2^52+f))=s:=sign_neg s (by omega)
 have e4:Bf s (P*2^52+f)<2^64:=by
  unfold Bf;cases s
  ·rw[Bfb (by decide)]; omega
  ·rw[Bfc rfl]; omega
 refine⟨e1,e2,e3,e4,?_,?_,?_⟩
 ·unfold Ag; rw[e1,Bfb (by omega),Bfc (by omega)]
 ·unfold Ap; rw[e1,e2,Bfb (by omega)]
 ·unfold Aw; rw[e1,Bfb (by omega)]
theorem Azb{L:Int}{q f:Nat}(hf:f<2^52)(h1:-1074<=L)(h2:L+1074<=2045)(hq:(L+1075).toNat=q):B9 (f+2^52) L=q*2^52+f:=by have em:=Amn (L:=L) (q:=f+2^52) (by omega) (by omega) h1 h2;rw[hq,Nat.add_sub_cancel] at em;exact(Qn (by omega) (by omega) h1).trans em
theorem Bdw{V:Nat}{E:Int}(h0:V≠0)(h:1024<=E+V.log2):B9 V E=Ea:=by
 have hl:Ca V E=E+V.log2-52:=by unfold Ca; omega
 have hk:=Adn h0 hl;have hle:=K5 V E;unfold B9 at hle ⊢;rw[Bfb h0] at hle ⊢;rw[hl,Ft] at hle ⊢;generalize kept V E=q at *
 obtain⟨t,ht⟩:∃t:Nat,E+(V.log2:Int)-52=t:=⟨(E+(V.log2:Int)-52).toNat,by omega⟩
 rw[ht];have:((t:Int)+1074).toNat=t+1074:=by omega
 rw[this];omega
theorem Aes{y m:Nat}(h:E5 y=m)(hm:Ag m≠4):y=m:=by
 unfold E5 at h;by_cases h4:Ag y=4
 ·rw[Bfc h4] at h;exact absurd (by rw[<- h]; decide) hm
 ·rw[Bfb h4] at h; exact h
theorem Vk(s:Bool)(V:Nat)(E:Int):Ag (Bf s (B9 V E))≠4:=by
 rw[Wr s (K5 V E)];split
 ·decide
 ·split
  ·decide
  ·split<;>decide
theorem Ay6{x P f d:Nat}{k:Int}(hm:Ap x≠0)(he:f+2^52=Ap x*2^d)(hP:(P:Int)-1075=Aw x-Ld x-d) :
 B9 (Ap x) (Aw x+k)=B9 (f+2^52) ((P:Int)-1075+Ld x+k):=by
 have:=(D1 (Ap x) d (Aw x+k)).1;rw[<- he] at this;rw[<- this];congr 1;omega
end Go.Ct
end
