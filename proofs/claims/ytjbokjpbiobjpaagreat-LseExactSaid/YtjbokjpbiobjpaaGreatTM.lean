/- A verified evaluator of the program's form and its use for this seat: S1PTame, S1EqLaw20X, S1PLaw20X. -/
import Derived.Test.YtjbokjpbiobjpaaGreatTJ
import Derived.Test.YtjbokjpbiobjpaaGreatTK
import Derived.Test.YtjbokjpbiobjpaaGreatTE
import Derived.Test.YtjbokjpbiobjpaaGreatTL
import Derived.Test.YtjbokjpbiobjpaaGreatTF
set_option linter.unusedVariables false
set_option linter.unusedSimpArgs false
noncomputable section
namespace Go.Proofs.S1
open Go Go.Den Go.Rnd Go.Proofs
open EqTame
theorem Ag2 {k b:Int} (hk:0≤k∧k≤1000):((A3 b !=(0:Int))&&((A2 (Bs b) (Ab ((0:Int)-k)))||(D1 k (Bs b))))=!(decide (A3 b=0)||(decide (-k≤Bs b)&&decide (Bs b<k))):=by
  rw [Al (by omega) (by omega),At,Ej,Au9]
  simp only [Au4,Bool.or_eq_true,Bool.not_eq_true',Bool.or_eq_false_iff,Bool.and_eq_false_iff,Au0,Avc,bne_iff_ne,ne_eq]
  omega
theorem Ag1 (N:Nat) {x:List Int} (ax:Ah x=true) (hx:x.length<4611686018427387904) {k:Int} (hk:0≤k∧k≤1000):∀ (t d:List Int) (F:Nat),x=d++t→t.length<F →
    Bk.Ec.L0 N F x k (d.length:Int)=some (.bool (t.all (Aas k))):=by
  intro t
  induction t with
  | nil =>
    intro d F hy hF
    obtain ⟨F,rfl⟩:∃ G,F=G+1:=⟨F-1,by omega⟩
    rw [List.append_nil] at hy
    subst hy
    rw [Bk.Ec.Au,At,Auy (by omega),Aux]
    rfl
  | cons b t ih =>
    intro d F hy hF
    obtain ⟨F,rfl⟩:∃ G,F=G+1:=⟨F-1,by omega⟩
    have hl:d.length<x.length:=by rw [hy,List.length_append,List.length_cons]; omega
    have hb:List.getD x d.length 0=b:=by rw [hy,Au3,List.getElem?_append_right (Nat.le_refl _),Nat.sub_self]; rfl
    have ib:Ai b=true:=by rw [← hb]; exact N2 ax hl
    obtain ⟨n,hn,_⟩:=Bu ib
    have nb:Oa b=true:=by rw [hn]; exact Ot n
    rw [Bk.Ec.Au,At,Auu (show (d.length:Int)<(x.length:Int) by omega),Auu (show (0:Int)≤(d.length:Int) by omega),Auv,hb,ib,nb,Ag2 hk]
    simp only [Aut,Auz,Bool.or_true]
    show (bif !Cy b then some (DV.bool false) else _)=some (DV.bool ((Cy b&&(decide (A3 b=0)||(decide (-k≤Bs b)&&decide (Bs b<k))))&&t.all (Aas k)))
    cases Cy b with
    | false=>rfl
    | true =>
      rw [Bool.not_true,Aux,Bool.true_and]
      cases (decide (A3 b=0)||(decide (-k≤Bs b)&&decide (Bs b<k))) with
      | false=>rfl
      | true =>
        have:=ih (d++[b]) F (by rw [hy,List.append_assoc]; rfl) (by simp only [List.length_cons] at hF; omega)
        rw [List.length_append] at this
        rw [Bool.not_true,Aux,Bool.true_and,Al (by omega) (by omega)]
        exact this
theorem Bk.Ec.known:Bk.Ec.Kn:=Bk.Ec.Ad (.cons A5.Finite.known (.cons A5.Kind.known (.cons G8.Kq.known .nil))) fun x k hp=>by
  obtain ⟨ox,hk⟩:=Ae.1 (show (Cx x&&Cu (0≤k∧k≤1000))=true from hp)
  refine ⟨x.length+1,.bool (Ct x k),[],?_,.bool⟩
  rw [Bk.Ec.ev]
  exact Ag1 (x.length+1) (P1 ox) (Aq.1 ox).1 (Aq.1 hk) x [] (x.length+1) rfl (by omega)
theorem Dp.Ec.known:Dp.Ec.Kn:=Dp.Ec.Ad (.cons Bk.Ec.known (.cons Bl.Gh.known .nil)) fun r c l k hp=>by
  obtain ⟨al,hk⟩:=Ae.1 (show (Ah l&&Cu (0≤k∧k≤1000))=true from hp)
  refine ⟨0,.bool (Av r c l&&Ct l k),[],?_,.bool⟩
  rw [Dp.Ec.ev,hk]
  cases hr:Av r c l with
  | false=>rfl
  | true =>
    rw [Kd al (by have:=Ms hr; omega)]
    rfl
set_option maxRecDepth 100000
namespace EqLaw20X
def B9.Cp.hint:Nat→Option A8
  | 0=>some { keep:=[2,7,9],objs:=[],boxes:=[7] }
  | _=>none
def B9.Cp.Bb:List (Nat × Entry):=[(50,B9.Gx.spec),(47,C6.Solve.spec),(54,Ay.Ed.spec),(55,Bk.Cm.spec),(53,Bk.Ec.spec),(33,Bl.Et.spec),(25,Dp.Check.spec),(39,Dp.Ec.spec)]
def B9.Cp.E:Env:=Bc (Ba B9.Cp.Bb) (fun _=>false) B9.Cp.hint (fun _=>none)
def B9.Cp.L0 (N M:Nat) (r c:Int) (l:List Int) (p q:Int) (m d:List Int) (p9:Int):Option DV:=B3 B9.Cp.E N Tryz.f11 (Am Tryz.f11) [1,1,1,1,0,1,0] [] M ⟨Gb 98 [(2,.ints .arg .u64 d),(7,.ptr 7 0 0),(9,.int .i64 p9)],[(7,false,.box [.int .i64 ((Cd r c l c c (Bf (Int.toNat c) (Int.toNat c) (fun j1 j2=>Ca j1 j2)) p q m (List.length d:Int) 1 d).1),.int .i64 ((Cd r c l c c (Bf (Int.toNat c) (Int.toNat c) (fun j1 j2=>Ca j1 j2)) p q m (List.length d:Int) 1 d).2.1),.ints .arg .u64 ((Cd r c l c c (Bf (Int.toNat c) (Int.toNat c) (fun j1 j2=>Ca j1 j2)) p q m (List.length d:Int) 1 d).2.2.1)])]⟩
theorem B9.Cp.Au (N M:Nat) (r c:Int) (l:List Int) (p q:Int) (m d:List Int) (p9:Int):B9.Cp.L0 N (M+1) r c l p q m d p9=bif (A2 p9 (List.length d:Int)) then bif (((decide ((0:Int)≤p9))&&(decide (p9≤(Ab (p9+1)))))&&((decide ((0:Int)≤(Ab (p9+1))))&&(decide ((Ab (p9+1))≤(List.length ((Cd r c l c c (Bf (Int.toNat c) (Int.toNat c) (fun j1 j2=>Ca j1 j2)) p q m (List.length d:Int) 1 d).2.2.1):Int))))) then bif (Cx (List.drop (Int.toNat p9) (List.take (Int.toNat (Ab (p9+1))) ((Cd r c l c c (Bf (Int.toNat c) (Int.toNat c) (fun j1 j2=>Ca j1 j2)) p q m (List.length d:Int) 1 d).2.2.1)))&&Cu (List.length (List.drop (Int.toNat p9) (List.take (Int.toNat (Ab (p9+1))) ((Cd r c l c c (Bf (Int.toNat c) (Int.toNat c) (fun j1 j2=>Ca j1 j2)) p q m (List.length d:Int) 1 d).2.2.1)))=1)) then bif (((decide ((0:Int)≤p9))&&(decide (p9≤(Ab (p9+1)))))&&((decide ((0:Int)≤(Ab (p9+1))))&&(decide ((Ab (p9+1))≤(List.length d:Int))))) then bif (Cx (List.drop (Int.toNat p9) (List.take (Int.toNat (Ab (p9+1))) d))&&Cu (List.length (List.drop (Int.toNat p9) (List.take (Int.toNat (Ab (p9+1))) d))=1)) then bif (Jh (Ax (Um (List.getD (List.drop (Int.toNat p9) (List.take (Int.toNat (Ab (p9+1))) ((Cd r c l c c (Bf (Int.toNat c) (Int.toNat c) (fun j1 j2=>Ca j1 j2)) p q m (List.length d:Int) 1 d).2.2.1))) 0 0))) (Ag (Um (List.getD (List.drop (Int.toNat p9) (List.take (Int.toNat (Ab (p9+1))) ((Cd r c l c c (Bf (Int.toNat c) (Int.toNat c) (fun j1 j2=>Ca j1 j2)) p q m (List.length d:Int) 1 d).2.2.1))) 0 0)))&&Jh (Ax (Um (List.getD (List.drop (Int.toNat p9) (List.take (Int.toNat (Ab (p9+1))) d)) 0 0))) (Ag (Um (List.getD (List.drop (Int.toNat p9) (List.take (Int.toNat (Ab (p9+1))) d)) 0 0)))) then bif (!(((decide ((sqE (List.getD (List.drop (Int.toNat p9) (List.take (Int.toNat (Ab (p9+1))) ((Cd r c l c c (Bf (Int.toNat c) (Int.toNat c) (fun j1 j2=>Ca j1 j2)) p q m (List.length d:Int) 1 d).2.2.1))) 0 0))=(sqE (List.getD (List.drop (Int.toNat p9) (List.take (Int.toNat (Ab (p9+1))) d)) 0 0))))&&T4 (wv (Ax (Um (List.getD (List.drop (Int.toNat p9) (List.take (Int.toNat (Ab (p9+1))) ((Cd r c l c c (Bf (Int.toNat c) (Int.toNat c) (fun j1 j2=>Ca j1 j2)) p q m (List.length d:Int) 1 d).2.2.1))) 0 0))) (Ag (Um (List.getD (List.drop (Int.toNat p9) (List.take (Int.toNat (Ab (p9+1))) ((Cd r c l c c (Bf (Int.toNat c) (Int.toNat c) (fun j1 j2=>Ca j1 j2)) p q m (List.length d:Int) 1 d).2.2.1))) 0 0)))) (wv (Ax (Um (List.getD (List.drop (Int.toNat p9) (List.take (Int.toNat (Ab (p9+1))) d)) 0 0))) (Ag (Um (List.getD (List.drop (Int.toNat p9) (List.take (Int.toNat (Ab (p9+1))) d)) 0 0))))))) then some (.bool false) else B9.Cp.L0 N M r c l p q m d (Ab (p9+1)) else none else none else none else none else none else some (.bool true) :=
  Eq.trans (by kernel_rfl)
  (Es (Da (Ap1 (decide ((0:Int)≤p9)) (decide (p9≤(Ab (p9+1)))) (decide ((0:Int)≤(Ab (p9+1)))) (decide ((Ab (p9+1))≤(List.length ((Cd r c l c c (Bf (Int.toNat c) (Int.toNat c) (fun j1 j2=>Ca j1 j2)) p q m (List.length d:Int) 1 d).2.2.1):Int)))) (Da (De (Cx (List.drop (Int.toNat p9) (List.take (Int.toNat (Ab (p9+1))) ((Cd r c l c c (Bf (Int.toNat c) (Int.toNat c) (fun j1 j2=>Ca j1 j2)) p q m (List.length d:Int) 1 d).2.2.1)))&&Cu (List.length (List.drop (Int.toNat p9) (List.take (Int.toNat (Ab (p9+1))) ((Cd r c l c c (Bf (Int.toNat c) (Int.toNat c) (fun j1 j2=>Ca j1 j2)) p q m (List.length d:Int) 1 d).2.2.1)))=1))) (Da (Ap1 (decide ((0:Int)≤p9)) (decide (p9≤(Ab (p9+1)))) (decide ((0:Int)≤(Ab (p9+1)))) (decide ((Ab (p9+1))≤(List.length d:Int)))) (Da (De (Cx (List.drop (Int.toNat p9) (List.take (Int.toNat (Ab (p9+1))) d))&&Cu (List.length (List.drop (Int.toNat p9) (List.take (Int.toNat (Ab (p9+1))) d))=1))) (Da (De (Jh (Ax (Um (List.getD (List.drop (Int.toNat p9) (List.take (Int.toNat (Ab (p9+1))) ((Cd r c l c c (Bf (Int.toNat c) (Int.toNat c) (fun j1 j2=>Ca j1 j2)) p q m (List.length d:Int) 1 d).2.2.1))) 0 0))) (Ag (Um (List.getD (List.drop (Int.toNat p9) (List.take (Int.toNat (Ab (p9+1))) ((Cd r c l c c (Bf (Int.toNat c) (Int.toNat c) (fun j1 j2=>Ca j1 j2)) p q m (List.length d:Int) 1 d).2.2.1))) 0 0)))&&Jh (Ax (Um (List.getD (List.drop (Int.toNat p9) (List.take (Int.toNat (Ab (p9+1))) d)) 0 0))) (Ag (Um (List.getD (List.drop (Int.toNat p9) (List.take (Int.toNat (Ab (p9+1))) d)) 0 0))))) rfl rfl) rfl) rfl) rfl) rfl) rfl)
theorem B9.Cp.ev (N:Nat) (r c:Int) (l:List Int) (p q:Int) (m d:List Int):Bw B9.Cp.E N Tryz.f11 (Am Tryz.f11) [.agg [.int .i64 r,.int .i64 c,.ints .arg .u64 l],.agg [.int .i64 p,.int .i64 q,.ints .arg .u64 m],.ints .arg .u64 d]=bif (Ah l&&Cu (0≤(30:Int)∧(30:Int)≤1000)) then bif ((!(Av r c l&&Ct l 30))||(Ah m&&Cu (0≤(30:Int)∧(30:Int)≤1000))) then bif ((((((!(Av r c l&&Ct l 30))||(!(Av p q m&&Ct m 30)))||((List.length d:Int) !=c))||(p !=r))||(q !=(1:Int)))||(Cx d&&Cu (0≤(30:Int)∧(30:Int)≤1000))) then bif ((((((!(Av r c l&&Ct l 30))||(!(Av p q m&&Ct m 30)))||((List.length d:Int) !=c))||(p !=r))||(q !=(1:Int)))||(!(Ct d 30))) then some (.bool true) else bif (Bg c) then bif (So l (Bf (Int.toNat c) (Int.toNat c) (fun j1 j2=>Ca j1 j2)) m d) then bif ((((Cd r c l c c (Bf (Int.toNat c) (Int.toNat c) (fun j1 j2=>Ca j1 j2)) p q m (List.length d:Int) 1 d).2.2.2) !=(0:Int))||(Ah ((Cd r c l c c (Bf (Int.toNat c) (Int.toNat c) (fun j1 j2=>Ca j1 j2)) p q m (List.length d:Int) 1 d).2.2.1))) then bif ((((((Cd r c l c c (Bf (Int.toNat c) (Int.toNat c) (fun j1 j2=>Ca j1 j2)) p q m (List.length d:Int) 1 d).2.2.2) !=(0:Int))||((Bt ((Cd r c l c c (Bf (Int.toNat c) (Int.toNat c) (fun j1 j2=>Ca j1 j2)) p q m (List.length d:Int) 1 d).1) ((Cd r c l c c (Bf (Int.toNat c) (Int.toNat c) (fun j1 j2=>Ca j1 j2)) p q m (List.length d:Int) 1 d).2.1) ((Cd r c l c c (Bf (Int.toNat c) (Int.toNat c) (fun j1 j2=>Ca j1 j2)) p q m (List.length d:Int) 1 d).2.2.1)) !=(0:Int)))||(((Cd r c l c c (Bf (Int.toNat c) (Int.toNat c) (fun j1 j2=>Ca j1 j2)) p q m (List.length d:Int) 1 d).1) !=(List.length d:Int)))||(((Cd r c l c c (Bf (Int.toNat c) (Int.toNat c) (fun j1 j2=>Ca j1 j2)) p q m (List.length d:Int) 1 d).2.1) !=(1:Int))) then some (.bool false) else B9.Cp.L0 N N r c l p q m d (0:Int) else none else none else none else none else none else none :=
  Eq.trans (by kernel_rfl)
  (Es (Ap (Aaq (Av r c l&&Ct l 30)) (Da (Ajl (Av r c l&&Ct l 30) (Ah m&&Cu (0≤(30:Int)∧(30:Int)≤1000))) (Ap (Sv (Av r c l&&Ct l 30)) (Ap (Aar (Av r c l&&Ct l 30)) (Ap (Ajk (Av r c l&&Ct l 30) (Av p q m&&Ct m 30)) (Ap (Agx (Av r c l&&Ct l 30) (Av p q m&&Ct m 30)) (Ap (Ajk (Av r c l&&Ct l 30) (Av p q m&&Ct m 30)) (Ap (Agx (Av r c l&&Ct l 30) (Av p q m&&Ct m 30)) (Ap (Aqw (Av r c l&&Ct l 30) (Av p q m&&Ct m 30)) (Ap (Ath (Av r c l&&Ct l 30) (Av p q m&&Ct m 30)) (Ap (Apy (Av r c l&&Ct l 30) (Av p q m&&Ct m 30) ((List.length d:Int) !=c)) (Ap (Apz (Av r c l&&Ct l 30) (Av p q m&&Ct m 30) ((List.length d:Int) !=c)) (Ap (Apy (Av r c l&&Ct l 30) (Av p q m&&Ct m 30) ((List.length d:Int) !=c)) (Ap (Apz (Av r c l&&Ct l 30) (Av p q m&&Ct m 30) ((List.length d:Int) !=c)) (Ap (Atr (Av r c l&&Ct l 30) (Av p q m&&Ct m 30) ((List.length d:Int) !=c)) (Ap (Ats (Av r c l&&Ct l 30) (Av p q m&&Ct m 30) ((List.length d:Int) !=c)) (Ap (Att (Av r c l&&Ct l 30) (Av p q m&&Ct m 30) ((List.length d:Int) !=c) (p !=r)) (Ap (Ap0 (Av r c l&&Ct l 30) (Av p q m&&Ct m 30) ((List.length d:Int) !=c) (p !=r)) (Ap (Ap0 (Av r c l&&Ct l 30) (Av p q m&&Ct m 30) ((List.length d:Int) !=c) (p !=r)) (Ap (Atu (Av r c l&&Ct l 30) (Av p q m&&Ct m 30) ((List.length d:Int) !=c) (p !=r)) (Ap (Atv (Av r c l&&Ct l 30) (Av p q m&&Ct m 30) ((List.length d:Int) !=c) (p !=r) (q !=(1:Int))) (Da (Atw (Av r c l&&Ct l 30) (Av p q m&&Ct m 30) ((List.length d:Int) !=c) (p !=r) (q !=(1:Int)) (Cx d&&Cu (0≤(30:Int)∧(30:Int)≤1000))) (Ap (Atx (Av r c l&&Ct l 30) (Av p q m&&Ct m 30) ((List.length d:Int) !=c) (p !=r) (q !=(1:Int))) (Ap (Aty (Av r c l&&Ct l 30) (Av p q m&&Ct m 30) ((List.length d:Int) !=c) (p !=r) (q !=(1:Int))) (Da (Atz (Av r c l&&Ct l 30) (Av p q m&&Ct m 30) ((List.length d:Int) !=c) (p !=r) (q !=(1:Int)) (Ct d 30)) rfl (Da (De (Bg c)) (Da (De (So l (Bf (Int.toNat c) (Int.toNat c) (fun j1 j2=>Ca j1 j2)) m d)) (Ap (Ul (((Cd r c l c c (Bf (Int.toNat c) (Int.toNat c) (fun j1 j2=>Ca j1 j2)) p q m (List.length d:Int) 1 d).2.2.2) !=(0:Int))) (Da (As3 (((Cd r c l c c (Bf (Int.toNat c) (Int.toNat c) (fun j1 j2=>Ca j1 j2)) p q m (List.length d:Int) 1 d).2.2.2) !=(0:Int)) (Ah ((Cd r c l c c (Bf (Int.toNat c) (Int.toNat c) (fun j1 j2=>Ca j1 j2)) p q m (List.length d:Int) 1 d).2.2.1))) (Ap (Q9 (((Cd r c l c c (Bf (Int.toNat c) (Int.toNat c) (fun j1 j2=>Ca j1 j2)) p q m (List.length d:Int) 1 d).2.2.2) !=(0:Int))) (Ap (tt6 (((Cd r c l c c (Bf (Int.toNat c) (Int.toNat c) (fun j1 j2=>Ca j1 j2)) p q m (List.length d:Int) 1 d).2.2.2) !=(0:Int))) (Ap (Aap (((Cd r c l c c (Bf (Int.toNat c) (Int.toNat c) (fun j1 j2=>Ca j1 j2)) p q m (List.length d:Int) 1 d).2.2.2) !=(0:Int)) ((Bt ((Cd r c l c c (Bf (Int.toNat c) (Int.toNat c) (fun j1 j2=>Ca j1 j2)) p q m (List.length d:Int) 1 d).1) ((Cd r c l c c (Bf (Int.toNat c) (Int.toNat c) (fun j1 j2=>Ca j1 j2)) p q m (List.length d:Int) 1 d).2.1) ((Cd r c l c c (Bf (Int.toNat c) (Int.toNat c) (fun j1 j2=>Ca j1 j2)) p q m (List.length d:Int) 1 d).2.2.1)) !=(0:Int))) (Ap (Adf (((Cd r c l c c (Bf (Int.toNat c) (Int.toNat c) (fun j1 j2=>Ca j1 j2)) p q m (List.length d:Int) 1 d).2.2.2) !=(0:Int)) ((Bt ((Cd r c l c c (Bf (Int.toNat c) (Int.toNat c) (fun j1 j2=>Ca j1 j2)) p q m (List.length d:Int) 1 d).1) ((Cd r c l c c (Bf (Int.toNat c) (Int.toNat c) (fun j1 j2=>Ca j1 j2)) p q m (List.length d:Int) 1 d).2.1) ((Cd r c l c c (Bf (Int.toNat c) (Int.toNat c) (fun j1 j2=>Ca j1 j2)) p q m (List.length d:Int) 1 d).2.2.1)) !=(0:Int))) (Ap (Aap (((Cd r c l c c (Bf (Int.toNat c) (Int.toNat c) (fun j1 j2=>Ca j1 j2)) p q m (List.length d:Int) 1 d).2.2.2) !=(0:Int)) ((Bt ((Cd r c l c c (Bf (Int.toNat c) (Int.toNat c) (fun j1 j2=>Ca j1 j2)) p q m (List.length d:Int) 1 d).1) ((Cd r c l c c (Bf (Int.toNat c) (Int.toNat c) (fun j1 j2=>Ca j1 j2)) p q m (List.length d:Int) 1 d).2.1) ((Cd r c l c c (Bf (Int.toNat c) (Int.toNat c) (fun j1 j2=>Ca j1 j2)) p q m (List.length d:Int) 1 d).2.2.1)) !=(0:Int))) (Ap (Adf (((Cd r c l c c (Bf (Int.toNat c) (Int.toNat c) (fun j1 j2=>Ca j1 j2)) p q m (List.length d:Int) 1 d).2.2.2) !=(0:Int)) ((Bt ((Cd r c l c c (Bf (Int.toNat c) (Int.toNat c) (fun j1 j2=>Ca j1 j2)) p q m (List.length d:Int) 1 d).1) ((Cd r c l c c (Bf (Int.toNat c) (Int.toNat c) (fun j1 j2=>Ca j1 j2)) p q m (List.length d:Int) 1 d).2.1) ((Cd r c l c c (Bf (Int.toNat c) (Int.toNat c) (fun j1 j2=>Ca j1 j2)) p q m (List.length d:Int) 1 d).2.2.1)) !=(0:Int))) (Ap (Ang (((Cd r c l c c (Bf (Int.toNat c) (Int.toNat c) (fun j1 j2=>Ca j1 j2)) p q m (List.length d:Int) 1 d).2.2.2) !=(0:Int)) ((Bt ((Cd r c l c c (Bf (Int.toNat c) (Int.toNat c) (fun j1 j2=>Ca j1 j2)) p q m (List.length d:Int) 1 d).1) ((Cd r c l c c (Bf (Int.toNat c) (Int.toNat c) (fun j1 j2=>Ca j1 j2)) p q m (List.length d:Int) 1 d).2.1) ((Cd r c l c c (Bf (Int.toNat c) (Int.toNat c) (fun j1 j2=>Ca j1 j2)) p q m (List.length d:Int) 1 d).2.2.1)) !=(0:Int))) (Ap (Anj (((Cd r c l c c (Bf (Int.toNat c) (Int.toNat c) (fun j1 j2=>Ca j1 j2)) p q m (List.length d:Int) 1 d).2.2.2) !=(0:Int)) ((Bt ((Cd r c l c c (Bf (Int.toNat c) (Int.toNat c) (fun j1 j2=>Ca j1 j2)) p q m (List.length d:Int) 1 d).1) ((Cd r c l c c (Bf (Int.toNat c) (Int.toNat c) (fun j1 j2=>Ca j1 j2)) p q m (List.length d:Int) 1 d).2.1) ((Cd r c l c c (Bf (Int.toNat c) (Int.toNat c) (fun j1 j2=>Ca j1 j2)) p q m (List.length d:Int) 1 d).2.2.1)) !=(0:Int))) (Ap (Ank (((Cd r c l c c (Bf (Int.toNat c) (Int.toNat c) (fun j1 j2=>Ca j1 j2)) p q m (List.length d:Int) 1 d).2.2.2) !=(0:Int)) ((Bt ((Cd r c l c c (Bf (Int.toNat c) (Int.toNat c) (fun j1 j2=>Ca j1 j2)) p q m (List.length d:Int) 1 d).1) ((Cd r c l c c (Bf (Int.toNat c) (Int.toNat c) (fun j1 j2=>Ca j1 j2)) p q m (List.length d:Int) 1 d).2.1) ((Cd r c l c c (Bf (Int.toNat c) (Int.toNat c) (fun j1 j2=>Ca j1 j2)) p q m (List.length d:Int) 1 d).2.2.1)) !=(0:Int)) (((Cd r c l c c (Bf (Int.toNat c) (Int.toNat c) (fun j1 j2=>Ca j1 j2)) p q m (List.length d:Int) 1 d).1) !=(List.length d:Int))) (Ap (Adg (((Cd r c l c c (Bf (Int.toNat c) (Int.toNat c) (fun j1 j2=>Ca j1 j2)) p q m (List.length d:Int) 1 d).2.2.2) !=(0:Int)) ((Bt ((Cd r c l c c (Bf (Int.toNat c) (Int.toNat c) (fun j1 j2=>Ca j1 j2)) p q m (List.length d:Int) 1 d).1) ((Cd r c l c c (Bf (Int.toNat c) (Int.toNat c) (fun j1 j2=>Ca j1 j2)) p q m (List.length d:Int) 1 d).2.1) ((Cd r c l c c (Bf (Int.toNat c) (Int.toNat c) (fun j1 j2=>Ca j1 j2)) p q m (List.length d:Int) 1 d).2.2.1)) !=(0:Int)) (((Cd r c l c c (Bf (Int.toNat c) (Int.toNat c) (fun j1 j2=>Ca j1 j2)) p q m (List.length d:Int) 1 d).1) !=(List.length d:Int))) (Ap (Adg (((Cd r c l c c (Bf (Int.toNat c) (Int.toNat c) (fun j1 j2=>Ca j1 j2)) p q m (List.length d:Int) 1 d).2.2.2) !=(0:Int)) ((Bt ((Cd r c l c c (Bf (Int.toNat c) (Int.toNat c) (fun j1 j2=>Ca j1 j2)) p q m (List.length d:Int) 1 d).1) ((Cd r c l c c (Bf (Int.toNat c) (Int.toNat c) (fun j1 j2=>Ca j1 j2)) p q m (List.length d:Int) 1 d).2.1) ((Cd r c l c c (Bf (Int.toNat c) (Int.toNat c) (fun j1 j2=>Ca j1 j2)) p q m (List.length d:Int) 1 d).2.2.1)) !=(0:Int)) (((Cd r c l c c (Bf (Int.toNat c) (Int.toNat c) (fun j1 j2=>Ca j1 j2)) p q m (List.length d:Int) 1 d).1) !=(List.length d:Int))) (Ap (Anl (((Cd r c l c c (Bf (Int.toNat c) (Int.toNat c) (fun j1 j2=>Ca j1 j2)) p q m (List.length d:Int) 1 d).2.2.2) !=(0:Int)) ((Bt ((Cd r c l c c (Bf (Int.toNat c) (Int.toNat c) (fun j1 j2=>Ca j1 j2)) p q m (List.length d:Int) 1 d).1) ((Cd r c l c c (Bf (Int.toNat c) (Int.toNat c) (fun j1 j2=>Ca j1 j2)) p q m (List.length d:Int) 1 d).2.1) ((Cd r c l c c (Bf (Int.toNat c) (Int.toNat c) (fun j1 j2=>Ca j1 j2)) p q m (List.length d:Int) 1 d).2.2.1)) !=(0:Int)) (((Cd r c l c c (Bf (Int.toNat c) (Int.toNat c) (fun j1 j2=>Ca j1 j2)) p q m (List.length d:Int) 1 d).1) !=(List.length d:Int))) (Da (At4 (((Cd r c l c c (Bf (Int.toNat c) (Int.toNat c) (fun j1 j2=>Ca j1 j2)) p q m (List.length d:Int) 1 d).2.2.2) !=(0:Int)) ((Bt ((Cd r c l c c (Bf (Int.toNat c) (Int.toNat c) (fun j1 j2=>Ca j1 j2)) p q m (List.length d:Int) 1 d).1) ((Cd r c l c c (Bf (Int.toNat c) (Int.toNat c) (fun j1 j2=>Ca j1 j2)) p q m (List.length d:Int) 1 d).2.1) ((Cd r c l c c (Bf (Int.toNat c) (Int.toNat c) (fun j1 j2=>Ca j1 j2)) p q m (List.length d:Int) 1 d).2.2.1)) !=(0:Int)) (((Cd r c l c c (Bf (Int.toNat c) (Int.toNat c) (fun j1 j2=>Ca j1 j2)) p q m (List.length d:Int) 1 d).1) !=(List.length d:Int)) (((Cd r c l c c (Bf (Int.toNat c) (Int.toNat c) (fun j1 j2=>Ca j1 j2)) p q m (List.length d:Int) 1 d).2.1) !=(1:Int))) rfl rfl))))))))))))) rfl)) rfl) rfl)))) rfl)))))))))))))))))))) rfl)) rfl)
abbrev _root_.Go.Proofs.S1.B9.Cp.Kn:=A6 Tryz.prog 11 B9.Cp.spec
theorem B9.Cp.Ad (hk:A0 Tryz.prog B9.Cp.Bb) (h:∀ (r c:Int) (l:List Int) (p q:Int) (m d:List Int),B9.Cp.pre [.i r,.i c,.l l,.i p,.i q,.l m,.l d]=true→Be B9.Cp.E Tryz.f11 [.agg [.int .i64 r,.int .i64 c,.ints .arg .u64 l],.agg [.int .i64 p,.int .i64 q,.ints .arg .u64 m],.ints .arg .u64 d] (B9.Cp.out [.i r,.i c,.l l,.i p,.i q,.l m,.l d])):B9.Cp.Kn :=
  Ak (A1 hk _ _ _) Tryz.func11 (by kernel_rfl) (by kernel_rfl) h
end EqLaw20X
open EqLaw20X
theorem Ap3 {x:Int} (hx:Ai x=true):Jh (Ax (Um x)) (Ag (Um x))=true:=by
  obtain ⟨n,rfl,hn⟩:=Bu hx
  have hs:=Aa1 n
  have hl2:C1 (mD (Ut (n:Int))).natAbs<5:=Nat.lt_of_le_of_lt (Hj (K9 _)) (U6 (k:=4) (Nat.lt_of_lt_of_le hs (by decide)) (by omega))
  have he:=(Ac9 n).2
  have oE:-2000000≤eD (Ut (n:Int)) (sqK (n:Int))∧eD (Ut (n:Int)) (sqK (n:Int))≤2000000:=by
    unfold eD
    by_cases k:Ut (n:Int)=0
    · rw [if_pos k]; omega
    · rw [if_neg k]
      have:=Rd (m:=(Ut (n:Int)).natAbs) (t:=106) hs (by omega)
      have e:sqK (n:Int)=eD (A7 (n:Int)) (Aw n)+eD (A7 (n:Int)) (Aw n):=rfl
      omega
  refine Jg ?_
  unfold Um Aae
  refine Nat.lt_of_le_of_lt (Hj (K9 _)) ?_
  have h1:=Ab4 (G5 0 (0-Db 0 0 (mD (Ut (n:Int))) (eD (Ut (n:Int)) (sqK (n:Int))))) (G5 (mD (Ut (n:Int))) (eD (Ut (n:Int)) (sqK (n:Int))-Db 0 0 (mD (Ut (n:Int))) (eD (Ut (n:Int)) (sqK (n:Int)))))
  have h2:=We 0 (0-Db 0 0 (mD (Ut (n:Int))) (eD (Ut (n:Int)) (sqK (n:Int))))
  have h3:=We (mD (Ut (n:Int))) (eD (Ut (n:Int)) (sqK (n:Int))-Db 0 0 (mD (Ut (n:Int))) (eD (Ut (n:Int)) (sqK (n:Int))))
  have h4:Db 0 0 (mD (Ut (n:Int))) (eD (Ut (n:Int)) (sqK (n:Int)))=eD (Ut (n:Int)) (sqK (n:Int)):=by unfold Db; rw [if_pos rfl]
  have h5:C1 (0:Int).natAbs=0:=rfl
  rw [h4] at h1 h2 h3
  unfold Ar7
  rw [h4]
  omega
theorem Aq0 {x y:Int} (h:Vd x y):Um x=Um y∧sqE x=sqE y:=by
  have z:Um 9223372036854775808=Um 0∧sqE 9223372036854775808=sqE 0:=by decide +kernel
  have z2:∀ {x:Int},Zr x→Um x=Um 0∧sqE x=sqE 0:=fun h=>by
    rcases h with rfl | rfl
    · exact ⟨rfl,rfl⟩
    · exact z
  rcases h with rfl | ⟨h1,h2⟩
  · exact ⟨rfl,rfl⟩
  · exact ⟨(z2 h1).1.trans (z2 h2).1.symm,(z2 h1).2.trans (z2 h2).2.symm⟩
theorem take_one {l:List Int} {i:Nat} (h:i<l.length):List.drop i (List.take (i+1) l)=[l.getD i 0]:=by
  rw [List.drop_take,show i+1-i=1 by omega,List.drop_eq_getElem_cons h,List.take_succ_cons,List.take_zero,Au3,Ava h]
  rfl
theorem ok_one {x:Int} (h:Ai x=true):Cx [x]=true:=Aq.2 ⟨by simp,fun y hy=>by rw [List.mem_singleton.1 hy]; exact h⟩
theorem Aex {N:Nat} {R:Nat} {l m d Y:List Int} (hf:Cd (R:Int) (d.length:Int) l (d.length:Int) (d.length:Int) (D5 d.length) (R:Int) 1 m (d.length:Int) 1 d=((d.length:Int),1,Y,0))
    (hY:Y.length=d.length) (aY:Ah Y=true) (ad:Ah d=true) (d6:d.length≤6) (hs:∀ i,i<d.length→Vd (Y.getD i 0) (d.getD i 0)):∀ (k i F:Nat),i+k=d.length→k<F →
    B9.Cp.L0 N F (R:Int) (d.length:Int) l (R:Int) 1 m d (i:Int)=some (.bool true):=by
  intro k
  induction k with
  | zero =>
    intro i F hi hF
    obtain ⟨F,rfl⟩:∃ G,F=G+1:=⟨F-1,by omega⟩
    obtain rfl:i=d.length:=by omega
    rw [B9.Cp.Au,At,Auy (by omega),Aux]
  | succ k ih =>
    intro i F hi hF
    obtain ⟨F,rfl⟩:∃ G,F=G+1:=⟨F-1,by omega⟩
    have e1:(i:Int)+1=((i+1:Nat):Int):=by omega
    have iy:=N2 aY (show i<Y.length by omega)
    have id:=N2 ad (show i<d.length by omega)
    obtain ⟨q1,q2⟩:=Aq0 (hs i (by omega))
    have eg:Bf (Int.toNat (d.length:Int)) (Int.toNat (d.length:Int)) (fun (j1 j2:Nat)=>Ca (j1:Int) (j2:Int))=D5 d.length:=rfl
    rw [B9.Cp.Au,At,Auu (show (i:Int)<(d.length:Int) by omega),Aut,Al (by omega) (by omega),e1,eg,hf]
    have z1:decide ((0:Int)≤(i:Int))=true:=Auu (by omega)
    have z2:decide ((i:Int)≤((i+1:Nat):Int))=true:=Auu (by omega)
    have z3:decide ((0:Int)≤((i+1:Nat):Int))=true:=Auu (by omega)
    have z4:decide (((i+1:Nat):Int)≤(d.length:Int))=true:=Auu (by omega)
    have z5:T4 (Um (d.getD i 0)) (Um (d.getD i 0))=true:=Auu rfl
    have z6:Cu True=true:=Aq.2 trivial
    have t1:=take_one (show i<Y.length by omega)
    have t2:=take_one (show i<d.length by omega)
    simp only [Auv,t1,t2,List.getD_cons_zero,List.length_singleton,ok_one iy,ok_one id,Ap3 iy,Ap3 id,Fz,q1,q2,hY,z1,z2,z3,z4,z5,decide_true,Auz,Aut,Bool.not_true,Aux]
    simp only [z6,Auz,Aut]
    exact ih (i+1) F (by omega) (by omega)
theorem B9.Cp.known:B9.Cp.Kn:=B9.Cp.Ad (.cons B9.Gx.known (.cons C6.Solve.known (.cons Ay.Ed.known (.cons Bk.Cm.known (.cons Bk.Ec.known (.cons Bl.Et.known (.cons Dp.Check.known (.cons Dp.Ec.known .nil)))))))) fun r c l p q m d hp=>by
  obtain ⟨h1,h2⟩:=Ae.1 (show ((Ah l&&Ah m)&&(Cx d&&Ap6 d))=true from hp)
  obtain ⟨al,am⟩:=Ae.1 h1
  obtain ⟨od,_⟩:=Ae.1 h2
  have ad:=P1 od
  refine ⟨7,.bool true,[],?_,.bool⟩
  rw [B9.Cp.ev,al,am,od,show Cu (0≤(30:Int)∧(30:Int)≤1000)=true from Aq.2 (by decide)]
  simp only [Auz,Bool.or_true,Aut]
  cases hG:(((((!(Av r c l&&Ct l (30:Int)))||(!(Av p q m&&Ct m (30:Int))))||((d.length:Int) !=c))||(p !=r))||(q !=(1:Int)))||(!(Ct d (30:Int))) with
  | true=>rfl
  | false =>
    simp only [Bool.or_eq_false_iff,Bool.not_eq_false',Au4,bne_eq_false_iff_eq] at hG
    obtain ⟨⟨⟨⟨⟨⟨hr,tl⟩,hm,tm⟩,hc⟩,hpr⟩,hq⟩,td⟩:=hG
    obtain ⟨R,n,rfl,rfl,r6,n6,hl⟩:=Dd hr
    obtain rfl:n=d.length:=by omega
    subst hpr
    subst hq
    obtain ⟨b1,f1⟩:=Sw (k:=30) tl
    obtain ⟨b2,f2⟩:=Sw (k:=30) tm
    obtain ⟨b3,f3⟩:=Sw (k:=30) td
    have hml:m.length=R*1:=by
      obtain ⟨R',o,e1,e2,_,_,hml⟩:=Dd hm
      obtain rfl:R=R':=by omega
      obtain rfl:o=1:=by omega
      exact hml
    obtain ⟨Y,e0,hY,fY,hs⟩:=Ah2 (R:=R) (n:=d.length) (.mk r6 n6 hl al) (.mk (C:=1) r6 (by decide) hml am) (.mk (C:=1) n6 (by decide) (by omega) ad) b1 b2 b3 f1 f2 f3
    have eg:Bf (Int.toNat (d.length:Int)) (Int.toNat (d.length:Int)) (fun (j1 j2:Nat)=>Ca (j1:Int) (j2:Int))=D5 d.length:=rfl
    have a4:So l (D5 d.length) m d=true:=by unfold So; rw [al,show Ah (D5 d.length)=true from (Sj n6).inn,am,ad]; rfl
    have hYl:Y.length=d.length:=by
      obtain ⟨Z,e,_,_,hZ,_⟩:=hY
      have:Y=Z:=congrArg (fun z:MX=>z.2.2.1) e
      rw [this]; omega
    have aY:Ah Y=true:=hY.inn
    have kY:Bt (d.length:Int) 1 Y=0:=hY.chk fY
    rw [Aux,Afp n6,Aut,eg,a4,Aut,e0]
    have c0:((0:Int) !=0)=false:=rfl
    have c1:((d.length:Int) !=(d.length:Int))=false:=by simp
    have c2:((1:Int) !=1)=false:=rfl
    dsimp only
    rw [aY,kY,c0,c1,c2,Bool.or_true,Aut,Bool.or_self,Bool.or_self,Bool.or_self,Aux]
    exact Aex e0 hYl aY ad n6 hs d.length 0 7 (by omega) (by omega)
end Go.Proofs.S1
end
