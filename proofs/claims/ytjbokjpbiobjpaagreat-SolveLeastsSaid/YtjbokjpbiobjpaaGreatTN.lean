/- A verified evaluator of the program's form and its use for this seat: S1PRef17, S1EqRef14, S1PRef13, S1PRef14, S1EqLow, S1PLow, S1PRefL, S1EqLaw17, S1PLaw17, S1EqLaw17M, S1PLaw17M. -/
import Derived.Test.YtjbokjpbiobjpaaGreatTM
import Derived.Test.YtjbokjpbiobjpaaGreatTJ
import Derived.Test.YtjbokjpbiobjpaaGreatTE
import Derived.Test.YtjbokjpbiobjpaaGreatTF
import Derived.Test.YtjbokjpbiobjpaaGreatTK
set_option linter.unusedVariables false
set_option linter.unusedSimpArgs false
noncomputable section
namespace Go.Proofs.S1
open Go Go.Den Go.Rnd Go.Proofs
open EqRef17
theorem Ai.Div.known : Ai.Div.Kn := Ai.Div.Ac (.cons Ai.B.known (.cons Ai.F.known .nil)) fun a b hp => by
  obtain ⟨ha, hb⟩ := Ad.1 hp
  obtain ⟨a, rfl, hn⟩ := Bj ha
  obtain ⟨b, rfl, hm⟩ := Bj hb
  refine ⟨0, Ai.Div.out [.i a, .i b], [], ?_, .int⟩
  rw [Ai.Div.ev, ha, hb, As4, As4]
  unfold Fb
  rw [Am5 hn hm F4]; rfl
theorem Vr (N : Nat) {x : List Int} (hx : Cp x = true) : ∀ (k i F : Nat), i + k = x.length → k < F → Ai.Finite.L0 N F x (i : Int) = some (.bool ((x.drop i).all Cv)) := by
  obtain ⟨hl, hu⟩ := Hj hx
  intro k
  induction k with
  | zero =>
    intro i F hi hF
    obtain ⟨F, rfl⟩ : ∃ G, F = G + 1 := ⟨F - 1, by omega⟩
    rw [Ai.Finite.As, Ar, As7 (by omega), As6, Atg (by omega)]; rfl
  | succ k ih =>
    intro i F hi hF
    obtain ⟨F, rfl⟩ : ∃ G, F = G + 1 := ⟨F - 1, by omega⟩
    rw [Ai.Finite.As, Ar, As3 (show (i : Int) < (x.length : Int) by omega), As2, As3 (show (0 : Int) ≤ (i : Int) by omega), As8, As2, As4, hu i (by omega), As2, Gj (by omega), List.all_cons]
    cases Cv (x.getD i 0) with
    | false => rfl
    | true =>
      rw [Bool.not_true, As6, Am (by omega) (by omega), Bool.true_and]
      exact ih (i + 1) F (by omega) (by omega)
theorem Ai.Finite.known : Ai.Finite.Kn := Ai.Finite.Ac (.cons A1.Finite.known .nil) fun x hp => by
  have hp : Cp x = true := hp
  refine ⟨x.length + 1, Ai.Finite.out [.l x], [], ?_, .bool⟩
  show _ = some (DV.bool (x.all Cv))
  rw [Ai.Finite.ev]
  exact Vr _ hp x.length 0 (x.length + 1) (by omega) (by omega)
theorem Gp.Check.known : Gp.Check.Kn := Gp.Check.Ac (.cons Ai.Finite.known (.cons Ah.Hp.known .nil)) fun r c l hp => by
  have hp : Al l = true := hp
  refine ⟨0, Gp.Check.out [.i r, .i c, .l l], [], ?_, .int⟩
  show _ = some (DV.int .i64 (C5 r c l))
  rw [Gp.Check.ev]
  unfold C5
  by_cases h : A9 r c l = true
  · have := Nt h
    rw [h, Bool.not_true, As6, Ik hp (by omega), As2, if_pos rfl]
    cases Dl l <;> rfl
  · have h' : A9 r c l = false := by simpa using h
    rw [h']; rfl
theorem W0 (N : Nat) {n : Nat} {l : List Int} (n6 : n ≤ 6) (hl : l.length = n * n) (al : Al l = true) : ∀ (cnt i F : Nat), i + cnt = n → cnt < F →
    A2.Check.L0 N F (n : Int) (n : Int) l (i : Int) = some (.int .i64 (if ((List.range n).drop i).any (fun i : Nat => decide (Bd (D0 (n : Int) l (i : Int) (i : Int)) = 0)) = true then 5 else 0)) := by
  intro cnt
  induction cnt with
  | zero =>
    intro i F hi hF
    obtain ⟨F, rfl⟩ : ∃ G, F = G + 1 := ⟨F - 1, by omega⟩
    rw [A2.Check.As, Ar, As7 (by omega), As6, Atg (by rw [List.length_range]; omega)]; rfl
  | succ cnt ih =>
    intro i F hi hF
    obtain ⟨F, rfl⟩ : ∃ G, F = G + 1 := ⟨F - 1, by omega⟩
    have hn : Kd (D0 (n : Int) l (i : Int) (i : Int)) = true := by
      obtain ⟨k, hk, _⟩ := Bj (H6 (c := (n : Int)) (i := (i : Int)) (k := (i : Int)) al)
      rw [hk]; exact H0 k
    rw [A2.Check.As, Ar, As3 (show (i : Int) < (n : Int) by omega), As2, Di n6 n6 hl (show i < n by omega) (show i < n by omega), As2, hn, As2, W3 (by omega), List.any_cons]
    by_cases hk : Bd (D0 (n : Int) l (i : Int) (i : Int)) = 0
    · have e : (Bd (D0 (n : Int) l (i : Int) (i : Int)) == (0 : Int)) = true := by rw [hk]; rfl
      rw [e, As2, As3 hk]; rfl
    · have e : (Bd (D0 (n : Int) l (i : Int) (i : Int)) == (0 : Int)) = false := by simpa using hk
      rw [e, As6, As7 hk, Bool.false_or, Am (by omega) (by omega)]
      exact ih (i + 1) F (by omega) (by omega)
theorem A2.Check.known : A2.Check.Kn := A2.Check.Ac (.cons A1.Kind.known (.cons Ah.At.known (.cons Gp.Check.known .nil))) fun r c l p q m hp => by
  obtain ⟨al, am⟩ := Ad.1 (show (Al l && Al m) = true from hp)
  refine ⟨8, A2.Check.out [.i r, .i c, .l l, .i p, .i q, .l m], [], ?_, .int⟩
  show _ = some (DV.int .i64 (Qf r c l p q m))
  rw [A2.Check.ev, al, As2, As2, am, As2, As2, Ap5]
  unfold Qf
  by_cases h1 : C5 r c l = 0
  · rw [Jk h1, As6, if_neg (by rw [h1]; decide)]
    by_cases h2 : C5 p q m = 0
    · rw [Jk h2, As6, if_neg (by rw [h2]; decide)]
      by_cases h3 : r ≠ c ∨ r ≠ p
      · rw [As3 h3, As2, if_pos h3]
      · rw [As7 h3, As6, if_neg h3]
        obtain rfl : r = c := Decidable.byContradiction fun h => h3 (.inl h)
        obtain ⟨R, C, rfl, hC, r6, c6, hl⟩ := C0 (J1 h1).1
        obtain rfl : R = C := by omega
        rw [As4]
        exact W0 8 r6 hl al R 0 8 (by omega) (by omega)
    · rw [neI h2, As2, if_pos h2]
  · rw [neI h1, As2, if_pos h1]
def Aiv (x : MX) : DV := .tup [.agg [.int .i64 x.1, .int .i64 x.2.1, .ints .arg .u64 x.2.2.1], .int .i64 x.2.2.2]
theorem Aao {drops : List Nat} {x : MX} : Wk drops (Aiv x) (Aiv x) :=
  Wk.Gm (.cons (Wk.G3 (.cons .int (.cons .int (.cons .Vw .nil)))) (.cons .int .nil))
theorem Rx {drops : List Nat} {e : Int} : Wk drops (Aos e) (Aiv (Nh e)) :=
  Wk.Gm (.cons (Wk.G3 (.cons .int (.cons .int (.cons (.nil _ _) .nil)))) (.cons .int .nil))
theorem A2.finite.known : A2.finite.Kn := A2.finite.Ac (.cons Ai.Finite.known .nil) fun r c l hp => by
  obtain ⟨al, hr⟩ := Ad.1 (show (Al l && A9 r c l) = true from hp)
  have := Nt hr
  show ∃ N dv drops, _ = some dv ∧ Wk drops dv (Aiv (Lt r c l))
  unfold Lt
  cases hf : Dl l with
  | true =>
    rw [if_pos rfl]
    exact ⟨0, _, [], by rw [A2.finite.ev, Ik al (by omega), hf]; rfl, Aao⟩
  | false =>
    rw [if_neg (by decide)]
    exact ⟨0, _, [], by rw [A2.finite.ev, Ik al (by omega), hf]; rfl, Rx⟩
section
variable {n Q : Nat} {l m : List Int}
theorem Aa5 (N : Nat) (n6 : n ≤ 6) (q6 : Q ≤ 6) (hl : l.length = n * n) (al : Al l = true) {i j k : Nat} (hi : i + k + 1 = n) (hj : j < Q) (M0 M1 : Nat) :
    ∀ (cnt t F : Nat) (s : Int), t + cnt = n → cnt < F → i + 1 ≤ t → Ag s = true →
    A2.Cj.L2 N M0 M1 F (n : Int) (n : Int) l (n : Int) (Q : Int) m s (t : Int) (j : Int) (i : Int) (Rf n Q l m j k) =
    A2.Cj.L1 N M0 M1 (n : Int) (n : Int) l (n : Int) (Q : Int) m (Ab ((i : Int) - (1 : Int))) (List.set (Rf n Q l m j k) (Int.toNat ((i : Int) * (Q : Int) + (j : Int))) (Ex (Rr (n : Int) l (i : Int) s (t : Int) ((Y8 (n : Int) l (fun i => D0 (Q : Int) m (i : Int) (j : Int)) n n).drop t)) (D0 (n : Int) l (i : Int) (i : Int)))) (j : Int) := by
  intro cnt
  induction cnt with
  | zero =>
    intro t F s ht hF hit hs
    obtain ⟨F, rfl⟩ : ∃ G, F = G + 1 := ⟨F - 1, by omega⟩
    rw [Atg (by rw [Ma]; omega), Rr]
    rw [A2.Cj.G5, Ar, As7 (show ¬ (t : Int) < (n : Int) by omega), As6, Di n6 n6 hl (show i < n by omega) (show i < n by omega), As2, hs, H6 al, As8, As2,
      Di n6 q6 (Sr (l := l) (m := m) j k) (show i < n by omega) hj, As2]
  | succ cnt ih =>
    intro t F s ht hF hit hs
    obtain ⟨F, rfl⟩ : ∃ G, F = G + 1 := ⟨F - 1, by omega⟩
    rw [A2.Cj.G5, Ar, As3 (show (t : Int) < (n : Int) by omega), As2, Di n6 n6 hl (show i < n by omega) (show t < n by omega), As2, Di n6 q6 (Sr (l := l) (m := m) j k) (show t < n by omega) hj, As2,
      Agu (show t < n by omega) hj (by omega), H6 al, Ae6, As8, As2, hs, Ju, As8, As2, Am (x := (t : Int) + 1) (by omega) (by omega)]
    have := ih (t + 1) F (Ei s (Ea (D0 (n : Int) l (i : Int) (t : Int)) (upF n Q l m t j))) (by omega) (by omega) (by omega) (Ok hs (Ju _ _))
    rw [Zz (by rw [Ma]; omega)]
    exact this
theorem Adb (N : Nat) (n6 : n ≤ 6) (q6 : Q ≤ 6) (hN : 7 < N) (hl : l.length = n * n) (hm : m.length = n * Q) (al : Al l = true) (am : Al m = true) {j : Nat} (hj : j < Q) (M0 : Nat) : ∀ (cnt k F : Nat), k + cnt = n → cnt < F →
    A2.Cj.L1 N M0 F (n : Int) (n : Int) l (n : Int) (Q : Int) m ((n : Int) - 1 - (k : Int)) (Rf n Q l m j k) (j : Int) =
    A2.Cj.L0 N M0 (n : Int) (n : Int) l (n : Int) (Q : Int) m ((j + 1 : Nat) : Int) (Rf n Q l m j n) := by
  intro cnt
  induction cnt with
  | zero =>
    intro k F hk hF
    obtain ⟨F, rfl⟩ : ∃ G, F = G + 1 := ⟨F - 1, by omega⟩
    obtain rfl : k = n := by omega
    rw [A2.Cj.B5, D6, As7 (by omega), As6, Am (by omega) (by omega)]
    rfl
  | succ cnt ih =>
    intro k F hk hF
    obtain ⟨F, rfl⟩ : ∃ G, F = G + 1 := ⟨F - 1, by omega⟩
    obtain ⟨i, hi⟩ : ∃ i : Nat, i + k + 1 = n := ⟨n - k - 1, by omega⟩
    have ei : (n : Int) - 1 - (k : Int) = (i : Int) := by omega
    have hr := Aa5 (n := n) (Q := Q) (l := l) (m := m) N n6 q6 hl al hi hj M0 F (n - (i + 1)) (i + 1) N (D0 (Q : Int) m (i : Int) (j : Int)) (by omega) (by omega) (by omega) (H6 (c := (Q : Int)) am)
    rw [Agt hi hj (Agw (show i < n by omega)).symm, Am (by omega) (by omega), show (i : Int) - 1 = (n : Int) - 1 - ((k + 1 : Nat) : Int) by omega] at hr
    rw [ei, A2.Cj.B5, D6, As3 (show (0 : Int) ≤ (i : Int) by omega), As2, Di n6 q6 hm (show i < n by omega) hj, As2, Am (x := (i : Int) + 1) (by omega) (by omega)]
    exact hr.trans (ih (k + 1) F (by omega) (by omega))
theorem Adc (N : Nat) (n6 : n ≤ 6) (q6 : Q ≤ 6) (hN : 7 < N) (hl : l.length = n * n) (hm : m.length = n * Q) (al : Al l = true) (am : Al m = true) : ∀ (cnt j F : Nat), j + cnt = Q → cnt < F →
    A2.Cj.L0 N F (n : Int) (n : Int) l (n : Int) (Q : Int) m (j : Int) (Rf n Q l m j 0) = some (Aiv (Lt (n : Int) (Q : Int) (Rf n Q l m Q 0))) := by
  intro cnt
  induction cnt with
  | zero =>
    intro j F hj hF
    obtain ⟨F, rfl⟩ : ∃ G, F = G + 1 := ⟨F - 1, by omega⟩
    obtain rfl : j = Q := by omega
    have hr : A9 (n : Int) (j : Int) (Rf n j l m j 0) = true := O2 _ n6 q6
    rw [A2.Cj.As, Ar, As7 (by omega), As6, Akl, hr, As8, As2]
    rfl
  | succ cnt ih =>
    intro j F hj hF
    obtain ⟨F, rfl⟩ : ∃ G, F = G + 1 := ⟨F - 1, by omega⟩
    have hr := Adb N n6 q6 hN hl hm al am (show j < Q by omega) F n 0 N (by omega) (by omega)
    rw [Ack, show (n : Int) - 1 - ((0 : Nat) : Int) = (n : Int) - 1 by omega] at hr
    rw [A2.Cj.As, Ar, As3 (show (j : Int) < (Q : Int) by omega), As2, Am (x := (n : Int) - 1) (by omega) (by omega)]
    exact hr.trans (ih (j + 1) F (by omega) (by omega))
end
theorem A2.Cj.known : A2.Cj.Kn := A2.Cj.Ac (.cons Ai.Div.known (.cons Ai.Mul.known (.cons Ai.Sub.known (.cons Ah.At.known (.cons Ah.Fq.known (.cons Ah.Bz.known (.cons A2.Check.known (.cons A2.finite.known .nil)))))))) fun r c l p q m hp => by
  have hp : (Al l && Al m) = true := hp
  obtain ⟨al, am⟩ := Ad.1 hp
  show ∃ N dv drops, _ = some dv ∧ Wk drops dv (Aiv (Wh r c l p q m))
  unfold Wh
  by_cases h : Qf r c l p q m = 0
  · obtain ⟨h1, h2, rfl, rfl⟩ := U3 h
    have s1 := Ja h2
    obtain ⟨R, C, rfl, hC, r6, c6, hl⟩ := C0 h1
    obtain ⟨P, Q, hP, rfl, p6, q6, hl2⟩ := C0 h2
    obtain rfl : R = C := by omega
    obtain rfl : R = P := by omega
    have n := Adc (n := R) (Q := Q) (l := l) (m := m) 8 r6 q6 (by omega) hl hl2 al am Q 0 8 (by omega) (by omega)
    rw [Acj, Agv, show ((0 : Nat) : Int) = 0 from rfl] at n
    rw [if_neg (by rw [h]; decide), As4, As4]
    refine ⟨8, _, [], ?_, Aao⟩
    rw [A2.Cj.ev, al, am, As8, As2, Jk h, As6, s1.1, s1.2, As8, As2, As4, As4]
    exact n
  · rw [if_pos h]
    exact ⟨0, _, [], by rw [A2.Cj.ev, hp, As2, As2, neI h, As2]; rfl, Rx⟩
set_option maxRecDepth 100000
namespace EqRef14
theorem E3 : ∀ a : Bool, (a && true) = a := by decide
theorem Jn : ∀ a b : Bool, (bif a then b else false) = (a && b) := by decide
theorem Iw : ∀ a : Bool, (((!a) || (a == true)) && true) = true := by decide
theorem Ia : ∀ a : Bool, ((!(a == true)) || ((((!(a == true)) || (a == true)) && (((!(a == true)) || (a == true)) && true)) && true)) = true := by decide
theorem Gd : ∀ a : Bool, ((!(a == true)) || ((((!(a == true)) || (a == true)) && true) && true)) = true := by decide
theorem Jg : ∀ a : Bool, ((!(a == true)) || true) = true := by decide
theorem Ld : ∀ a b : Bool, ((a && b) && true) = (a && b) := by decide
theorem Lx : ∀ a b : Bool, (bif (!a) then true else (!b)) = ((!a) || (!b)) := by decide
theorem Pm : ∀ a : Bool, ((!(!(!a))) || ((!a) == false)) = true := by decide
theorem Sp : ∀ a : Bool, ((!((!a) == false)) || ((((!((!a) == false)) || ((!a) == false)) && true) && true)) = true := by decide
theorem Hx : ∀ a b : Bool, ((!((!a) == false)) || ((((!((!a) == false)) || ((!a) == false)) && true) && b)) = ((!a) || b) := by decide
theorem I1 : ∀ a : Bool, ((!((!a) == false)) || true) = true := by decide
theorem J9 : ∀ a b : Bool, (bif a then true else b) = (a || b) := by decide
theorem Mr : ∀ a : Bool, ((!(!a)) || (a == false)) = true := by decide
theorem Oi : ∀ a : Bool, ((!(a == false)) || ((((!(a == false)) || (a == false)) && (((!(a == false)) || (a == false)) && true)) && true)) = true := by decide
theorem Jh : ∀ a : Bool, ((!(a == false)) || ((((!(a == false)) || (a == false)) && true) && true)) = true := by decide
theorem Pn : ∀ a : Bool, ((!(a == false)) || true) = true := by decide
def B4.By.hint : Nat → Option Ba
  | 0 => some { keep := [1, 2, 3, 4, 5], objs := [(0, 4, 100004, .recs 191 3 [])], boxes := [1, 2, 3] }
  | 2 => some { keep := [2, 3, 4, 9, 10], objs := [(0, 4, 100004, .recs 191 3 [])], boxes := [2, 3, 9] }
  | _ => none
def B4.By.A7 : List (Nat × Entry) := [(92, Ai.Finite.spec), (108, Ah.Pg.spec), (33, Ah.Eh.arg.spec), (198, A6.Apply.spec), (196, A6.Df.spec), (197, B4.Db.spec)]
def B4.By.E : Env := Uz (A5 B4.By.A7) (fun _ => false) B4.By.hint (fun _ => none) (Aev [(22, [.s .u64]), (37, [.i .u64])])
def B4.By.L0 (N M : Nat) (r c : Int) (l : List Int) (p5 : Int) (p3 : List Int) (p4 : List (List DV)) : Option DV := B0 B4.By.E N Tryz.f127 (An Tryz.f127) [1, 1, 1, 0, 1, 0] [] M ⟨F7 95 [(1, .ptr 1 0 0), (2, .ptr 2 0 0), (3, .ptr 3 0 0), (4, .oref 100004), (5, .int .i64 p5)], [(1, false, .box [.int .i64 r, .int .i64 c, .ints .arg .u64 l]), (2, false, .box [.int .i64 0, .int .i64 0, .nil, .int .i64 0, .int .i64 0, .nil, .bool false]), (3, false, .box [.int .i64 r, .int .i64 c, .ints .arg .u64 p3]), (100004, false, .recs 191 3 p4)]⟩
def B4.By.L1 (N M : Nat) (r c p10 : Int) (p3_1 : List Int) (p4_1 : List (List DV)) (p9 : List Int) : Option DV := B0 B4.By.E N Tryz.f127 (An Tryz.f127) [1, 1, 1, 1, 1, 0, 1, 0] [] M ⟨F7 95 [(2, .ptr 2 0 0), (3, .ptr 3 0 0), (4, .oref 100004), (9, .ptr 9 0 0), (10, .int .i64 p10)], [(2, false, .box [.int .i64 0, .int .i64 0, .nil, .int .i64 0, .int .i64 0, .nil, .bool false]), (3, false, .box [.int .i64 r, .int .i64 c, .ints .arg .u64 p3_1]), (9, false, .box [.int .i64 r, .int .i64 r, .ints .arg .u64 p9]), (100004, false, .recs 191 3 p4_1)]⟩
theorem B4.By.As (N M : Nat) (r c : Int) (l : List Int) (p5 : Int) (p3 : List Int) (p4 : List (List DV)) : B4.By.L0 N (M + 1) r c l p5 p3 p4 = bif ((A4 p5 c) && (A4 p5 (Ab (r - (1 : Int))))) then bif (Gk r c p3 p5 && C3 (0 ≤ p5 ∧ p5 ≤ r)) then bif (Cp (Cn c p3 p5 p5 (Int.toNat (r - p5)))) then bif (!(Dl (Cn c p3 p5 p5 (Int.toNat (r - p5))))) then some (.agg [.int .i64 0, .int .i64 0, .nil, .int .i64 0, .int .i64 0, .nil, .bool false]) else bif (Cp (Cn c p3 p5 p5 (Int.toNat (r - p5))) && C3 (1 ≤ List.length (Cn c p3 p5 p5 (Int.toNat (r - p5))) ∧ List.length (Cn c p3 p5 p5 (Int.toNat (r - p5))) ≤ 64)) then bif (!(decide ((I4 (Cn c p3 p5 p5 (Int.toNat (r - p5)))).2.2.2 = 0))) then some (.agg [.int .i64 0, .int .i64 0, .nil, .int .i64 0, .int .i64 0, .nil, .bool false]) else bif (((A9 r c p3 && G2 r c p5 p5 ((I4 (Cn c p3 p5 p5 (Int.toNat (r - p5)))).1)) && (Al p3 && Al ((I4 (Cn c p3 p5 p5 (Int.toNat (r - p5)))).1))) && Ag ((I4 (Cn c p3 p5 p5 (Int.toNat (r - p5)))).2.1)) then bif (A9 r c (Et (Int.toNat r) (Int.toNat c) p3 p5 p5 ((I4 (Cn c p3 p5 p5 (Int.toNat (r - p5)))).1) ((I4 (Cn c p3 p5 p5 (Int.toNat (r - p5)))).2.1)) && C3 (0 ≤ p5 ∧ p5 < r ∧ p5 < c)) then bif (decide ((List.length p4) + 1 ≤ Adw)) then B4.By.L0 N M r c l (Ab (p5 + (1 : Int))) (Mk (Int.toNat r) (Int.toNat c) (Et (Int.toNat r) (Int.toNat c) p3 p5 p5 ((I4 (Cn c p3 p5 p5 (Int.toNat (r - p5)))).1) ((I4 (Cn c p3 p5 p5 (Int.toNat (r - p5)))).2.1)) (Int.toNat p5) ((I4 (Cn c p3 p5 p5 (Int.toNat (r - p5)))).2.2.1)) (p4 ++ [[.ints .arg .u64 ((I4 (Cn c p3 p5 p5 (Int.toNat (r - p5)))).1), .int .u64 ((I4 (Cn c p3 p5 p5 (Int.toNat (r - p5)))).2.1), .int .u64 ((I4 (Cn c p3 p5 p5 (Int.toNat (r - p5)))).2.2.1)]]) else none else none else none else none else none else none else bif (Bw r) then B4.By.L1 N N r c (Ab ((List.length p4 : Int) - (1 : Int))) p3 p4 (Ih (Int.toNat r)) else none :=
  Eq.trans (by kernel_rfl)
  (Ax (Jg (A4 p5 c)) (Ax (Jg (A4 p5 c)) (Ax (Gd (A4 p5 c)) (Ax (Gd (A4 p5 c)) (Ax (Ia (A4 p5 c)) (Ax (Iw (A4 p5 c)) (Cx (Jn (A4 p5 c) (A4 p5 (Ab (r - (1 : Int))))) (Ee (Ee (Ee rfl (Ee (Ee rfl (Cx (E3 (((A9 r c p3 && G2 r c p5 p5 ((I4 (Cn c p3 p5 p5 (Int.toNat (r - p5)))).1)) && (Al p3 && Al ((I4 (Cn c p3 p5 p5 (Int.toNat (r - p5)))).1))) && Ag ((I4 (Cn c p3 p5 p5 (Int.toNat (r - p5)))).2.1))) (Cx (E3 (A9 r c (Et (Int.toNat r) (Int.toNat c) p3 p5 p5 ((I4 (Cn c p3 p5 p5 (Int.toNat (r - p5)))).1) ((I4 (Cn c p3 p5 p5 (Int.toNat (r - p5)))).2.1)) && C3 (0 ≤ p5 ∧ p5 < r ∧ p5 < c))) rfl rfl) rfl)) rfl)) rfl) rfl) rfl)))))))
theorem B4.By.B5 (N M : Nat) (r c p10 : Int) (p3_1 : List Int) (p4_1 : List (List DV)) (p9 : List Int) : B4.By.L1 N (M + 1) r c p10 p3_1 p4_1 p9 = bif (D2 (0 : Int) p10) then bif ((decide (0 ≤ p10)) && (decide (p10 < (List.length p4_1 : Int)))) then bif ((decide ((Int.toNat p10) < (List.length p4_1))) && (isC (.s .u64) (List.getD (List.getD p4_1 (Int.toNat p10) []) 0 .undef))) then bif ((decide (0 ≤ p10)) && (decide (p10 < (List.length p4_1 : Int)))) then bif ((decide ((Int.toNat p10) < (List.length p4_1))) && (isC (.i .u64) (List.getD (List.getD p4_1 (Int.toNat p10) []) 1 .undef))) then bif (((A9 r r p9 && G2 r r p10 (0 : Int) (Lc (List.getD (List.getD p4_1 (Int.toNat p10) []) 0 .undef))) && (Al p9 && Al (Lc (List.getD (List.getD p4_1 (Int.toNat p10) []) 0 .undef)))) && Ag (Yc (List.getD (List.getD p4_1 (Int.toNat p10) []) 1 .undef))) then B4.By.L1 N M r c (Ab (p10 - (1 : Int))) p3_1 p4_1 (Et (Int.toNat r) (Int.toNat r) p9 p10 (0 : Int) (Lc (List.getD (List.getD p4_1 (Int.toNat p10) []) 0 .undef)) (Yc (List.getD (List.getD p4_1 (Int.toNat p10) []) 1 .undef))) else none else none else none else none else none else bif (Cp p9) then bif ((!(Dl p9)) || (Cp p3_1)) then bif ((!(Dl p9)) || (!(Dl p3_1))) then some (.agg [.int .i64 0, .int .i64 0, .nil, .int .i64 0, .int .i64 0, .nil, .bool false]) else some (.agg [.int .i64 r, .int .i64 r, .ints .arg .u64 p9, .int .i64 r, .int .i64 c, .ints .arg .u64 p3_1, .bool true]) else none else none :=
  Eq.trans (by kernel_rfl)
  (Ee (Cx (Ld (decide (0 ≤ p10)) (decide (p10 < (List.length p4_1 : Int)))) (Cx (Ld (decide ((Int.toNat p10) < (List.length p4_1))) (isC (.s .u64) (List.getD (List.getD p4_1 (Int.toNat p10) []) 0 .undef))) (Cx (Ld (decide (0 ≤ p10)) (decide (p10 < (List.length p4_1 : Int)))) (Cx (Ld (decide ((Int.toNat p10) < (List.length p4_1))) (isC (.i .u64) (List.getD (List.getD p4_1 (Int.toNat p10) []) 1 .undef))) (Cx (E3 (((A9 r r p9 && G2 r r p10 (0 : Int) (Lc (List.getD (List.getD p4_1 (Int.toNat p10) []) 0 .undef))) && (Al p9 && Al (Lc (List.getD (List.getD p4_1 (Int.toNat p10) []) 0 .undef)))) && Ag (Yc (List.getD (List.getD p4_1 (Int.toNat p10) []) 1 .undef)))) rfl rfl) rfl) rfl) rfl) rfl) (Ee (Ax (I1 (Dl p9)) (Ax (Sp (Dl p9)) (Cx (Hx (Dl p9) (Cp p3_1)) (Ax (Sp (Dl p9)) (Ax (Pm (Dl p9)) (Cx (Lx (Dl p9) (Dl p3_1)) rfl rfl))) rfl))) rfl))
theorem B4.By.ev (N : Nat) (r c : Int) (l : List Int) : Bx B4.By.E N Tryz.f127 (An Tryz.f127) [.agg [.int .i64 r, .int .i64 c, .ints .arg .u64 l]] =
  B4.By.L0 N N r c l (0 : Int) l [] := by kernel_rfl
abbrev _root_.Go.Proofs.S1.B4.By.Kn := A3 Tryz.prog 127 B4.By.spec
theorem B4.By.Ac (hk : Ay Tryz.prog B4.By.A7) (h : ∀ (r c : Int) (l : List Int), B4.By.pre [.i r, .i c, .l l] = true → Bc B4.By.E Tryz.f127 [.agg [.int .i64 r, .int .i64 c, .ints .arg .u64 l]] (B4.By.out [.i r, .i c, .l l])) : B4.By.Kn :=
  Ak (Wa hk _ _ _ _) Tryz.func127 (by kernel_rfl) (by kernel_rfl) h
def B4.Fs.A7 : List (Nat × Entry) := [(128, Ah.Part.spec), (127, B4.By.spec)]
def B4.Fs.E : Env := Bb (A5 B4.Fs.A7) (fun _ => false) (fun _ => none) (fun _ => none)
theorem B4.Fs.ev (N : Nat) (r c : Int) (l : List Int) : Bx B4.Fs.E N Tryz.f100 (An Tryz.f100) [.agg [.int .i64 r, .int .i64 c, .ints .arg .u64 l]] = bif ((A9 r c l && Dl l) && Al l) then bif (!(decide (Ez r c l = 0))) then some (.agg [.int .i64 ((qX r c l).1), .int .i64 ((qX r c l).2.1), .ints .arg .u64 ((qX r c l).2.2.1), .int .i64 ((rX r c l).1), .int .i64 ((rX r c l).2.1), .ints .arg .u64 ((rX r c l).2.2.1), .bool (decide (Ez r c l = 0))]) else bif (A9 ((qX r c l).1) ((qX r c l).2.1) ((qX r c l).2.2.1) && Hi ((qX r c l).1) ((qX r c l).2.1) (0 : Int) (0 : Int) r (min r c)) then bif (A9 ((rX r c l).1) ((rX r c l).2.1) ((rX r c l).2.2.1) && Hi ((rX r c l).1) ((rX r c l).2.1) (0 : Int) (0 : Int) (min r c) c) then some (.agg [.int .i64 r, .int .i64 (min r c), .ints .fresh .u64 (Cd (Int.toNat r) (Int.toNat (min r c)) (fun j1 j2 => D0 ((qX r c l).2.1) ((qX r c l).2.2.1) ((0 : Int) + j1) ((0 : Int) + j2))), .int .i64 (min r c), .int .i64 c, .ints .fresh .u64 (Cd (Int.toNat (min r c)) (Int.toNat c) (fun j1 j2 => D0 ((rX r c l).2.1) ((rX r c l).2.2.1) ((0 : Int) + j1) ((0 : Int) + j2))), .bool true]) else none else none else none :=
  Eq.trans (by kernel_rfl)
  (Ee (Ee rfl (Cx (E3 (A9 ((qX r c l).1) ((qX r c l).2.1) ((qX r c l).2.2.1) && Hi ((qX r c l).1) ((qX r c l).2.1) (0 : Int) (0 : Int) r (min r c))) (Cx (E3 (A9 ((rX r c l).1) ((rX r c l).2.1) ((rX r c l).2.2.1) && Hi ((rX r c l).1) ((rX r c l).2.1) (0 : Int) (0 : Int) (min r c) c)) rfl rfl) rfl)) rfl)
abbrev _root_.Go.Proofs.S1.B4.Fs.Kn := A3 Tryz.prog 100 B4.Fs.spec
theorem B4.Fs.Ac (hk : Ay Tryz.prog B4.Fs.A7) (h : ∀ (r c : Int) (l : List Int), B4.Fs.pre [.i r, .i c, .l l] = true → Bc B4.Fs.E Tryz.f100 [.agg [.int .i64 r, .int .i64 c, .ints .arg .u64 l]] (B4.Fs.out [.i r, .i c, .l l])) : B4.Fs.Kn :=
  Ak (Az hk _ _ _) Tryz.func100 (by kernel_rfl) (by kernel_rfl) h
def A2.Dq.A7 : List (Nat × Entry) := [(45, Ah.Mul.spec), (37, Ah.Cl.spec), (25, Gp.Check.spec), (100, B4.Fs.spec), (26, A2.Flat.spec), (101, A2.Cj.spec)]
def A2.Dq.E : Env := Bb (A5 A2.Dq.A7) (fun _ => false) (fun _ => none) (fun _ => none)
theorem A2.Dq.ev (N : Nat) (r c : Int) (l : List Int) (p q : Int) (m : List Int) : Bx A2.Dq.E N Tryz.f32 (An Tryz.f32) [.agg [.int .i64 r, .int .i64 c, .ints .arg .u64 l], .agg [.int .i64 p, .int .i64 q, .ints .arg .u64 m]] = bif (Al l) then bif ((C5 r c l) != (0 : Int)) then bif (Al l) then some (.tup [.agg [.int .i64 0, .int .i64 0, .nil], .int .i64 (C5 r c l)]) else none else bif (Al m) then bif ((C5 p q m) != (0 : Int)) then bif (Al m) then some (.tup [.agg [.int .i64 0, .int .i64 0, .nil], .int .i64 (C5 p q m)]) else none else bif ((A4 r c) || (r != p)) then some (.tup [.agg [.int .i64 0, .int .i64 0, .nil], .int .i64 3]) else bif ((A9 r c l && Dl l) && Al l) then bif (!(decide (Ez r c l = 0))) then some (.tup [.agg [.int .i64 0, .int .i64 0, .nil], .int .i64 2]) else bif ((A9 ((Hv r c l).1) ((Hv r c l).2.1) ((Hv r c l).2.2.1) && Al ((Hv r c l).2.2.1)) && Dl ((Hv r c l).2.2.1)) then bif (P8 ((Hv r c l).1) ((Hv r c l).2.1) ((Hv r c l).2.2.1)) then some (.tup [.agg [.int .i64 0, .int .i64 0, .nil], .int .i64 5]) else bif (A9 ((Du r c l).1) ((Du r c l).2.1) ((Du r c l).2.2.1)) then bif ((A9 ((Du r c l).2.1) ((Du r c l).1) (Cd (Int.toNat ((Du r c l).2.1)) (Int.toNat ((Du r c l).1)) (fun j1 j2 => D0 ((Du r c l).2.1) ((Du r c l).2.2.1) j2 j1)) && A9 p q m) && ((Al (Cd (Int.toNat ((Du r c l).2.1)) (Int.toNat ((Du r c l).1)) (fun j1 j2 => D0 ((Du r c l).2.1) ((Du r c l).2.2.1) j2 j1)) && Al m) && decide (((Du r c l).1) = p))) then bif (Al ((Hv r c l).2.2.1) && Al (Cd (Int.toNat ((Du r c l).2.1)) (Int.toNat q) (fun j1 j2 => It (Gn ((Du r c l).1) (Cd (Int.toNat ((Du r c l).2.1)) (Int.toNat ((Du r c l).1)) (fun j1 j2 => D0 ((Du r c l).2.1) ((Du r c l).2.2.1) j2 j1)) j1) (J7 p q m j2)))) then some (.tup [.agg [.int .i64 ((Wh ((Hv r c l).1) ((Hv r c l).2.1) ((Hv r c l).2.2.1) ((Du r c l).2.1) q (Cd (Int.toNat ((Du r c l).2.1)) (Int.toNat q) (fun j1 j2 => It (Gn ((Du r c l).1) (Cd (Int.toNat ((Du r c l).2.1)) (Int.toNat ((Du r c l).1)) (fun j1 j2 => D0 ((Du r c l).2.1) ((Du r c l).2.2.1) j2 j1)) j1) (J7 p q m j2)))).1), .int .i64 ((Wh ((Hv r c l).1) ((Hv r c l).2.1) ((Hv r c l).2.2.1) ((Du r c l).2.1) q (Cd (Int.toNat ((Du r c l).2.1)) (Int.toNat q) (fun j1 j2 => It (Gn ((Du r c l).1) (Cd (Int.toNat ((Du r c l).2.1)) (Int.toNat ((Du r c l).1)) (fun j1 j2 => D0 ((Du r c l).2.1) ((Du r c l).2.2.1) j2 j1)) j1) (J7 p q m j2)))).2.1), .ints .arg .u64 ((Wh ((Hv r c l).1) ((Hv r c l).2.1) ((Hv r c l).2.2.1) ((Du r c l).2.1) q (Cd (Int.toNat ((Du r c l).2.1)) (Int.toNat q) (fun j1 j2 => It (Gn ((Du r c l).1) (Cd (Int.toNat ((Du r c l).2.1)) (Int.toNat ((Du r c l).1)) (fun j1 j2 => D0 ((Du r c l).2.1) ((Du r c l).2.2.1) j2 j1)) j1) (J7 p q m j2)))).2.2.1)], .int .i64 ((Wh ((Hv r c l).1) ((Hv r c l).2.1) ((Hv r c l).2.2.1) ((Du r c l).2.1) q (Cd (Int.toNat ((Du r c l).2.1)) (Int.toNat q) (fun j1 j2 => It (Gn ((Du r c l).1) (Cd (Int.toNat ((Du r c l).2.1)) (Int.toNat ((Du r c l).1)) (fun j1 j2 => D0 ((Du r c l).2.1) ((Du r c l).2.2.1) j2 j1)) j1) (J7 p q m j2)))).2.2.2)]) else none else none else none else none else none else none else none :=
  Eq.trans (by kernel_rfl)
  (Ee (Ee rfl (Ee (Ee rfl (Ax (Pn (A4 r c)) (Ax (Jh (A4 r c)) (Ax (Pn (A4 r c)) (Ax (Jh (A4 r c)) (Ax (Oi (A4 r c)) (Ax (Mr (A4 r c)) (Cx (J9 (A4 r c) (r != p)) rfl (Ee (Ee rfl (Ee (Ee rfl (Cx (E3 (A9 ((Du r c l).1) ((Du r c l).2.1) ((Du r c l).2.2.1))) (Cx (E3 ((A9 ((Du r c l).2.1) ((Du r c l).1) (Cd (Int.toNat ((Du r c l).2.1)) (Int.toNat ((Du r c l).1)) (fun j1 j2 => D0 ((Du r c l).2.1) ((Du r c l).2.2.1) j2 j1)) && A9 p q m) && ((Al (Cd (Int.toNat ((Du r c l).2.1)) (Int.toNat ((Du r c l).1)) (fun j1 j2 => D0 ((Du r c l).2.1) ((Du r c l).2.2.1) j2 j1)) && Al m) && decide (((Du r c l).1) = p)))) (Cx (E3 (Al ((Hv r c l).2.2.1) && Al (Cd (Int.toNat ((Du r c l).2.1)) (Int.toNat q) (fun j1 j2 => It (Gn ((Du r c l).1) (Cd (Int.toNat ((Du r c l).2.1)) (Int.toNat ((Du r c l).1)) (fun j1 j2 => D0 ((Du r c l).2.1) ((Du r c l).2.2.1) j2 j1)) j1) (J7 p q m j2))))) rfl rfl) rfl) rfl)) rfl)) rfl))))))))) rfl)) rfl)
abbrev _root_.Go.Proofs.S1.A2.Dq.Kn := A3 Tryz.prog 32 A2.Dq.spec
theorem A2.Dq.Ac (hk : Ay Tryz.prog A2.Dq.A7) (h : ∀ (r c : Int) (l : List Int) (p q : Int) (m : List Int), A2.Dq.pre [.i r, .i c, .l l, .i p, .i q, .l m] = true → Bc A2.Dq.E Tryz.f32 [.agg [.int .i64 r, .int .i64 c, .ints .arg .u64 l], .agg [.int .i64 p, .int .i64 q, .ints .arg .u64 m]] (A2.Dq.out [.i r, .i c, .l l, .i p, .i q, .l m])) : A2.Dq.Kn :=
  Ak (Az hk _ _ _) Tryz.func32 (by kernel_rfl) (by kernel_rfl) h
end EqRef14
open EqRef13 EqRef14
theorem Ah.Fq.arg.known : Ah.Fq.arg.Kn := A3.Akd (P := _) (pre := Ah.Fq.pre) (out := Ah.Fq.out) Ah.Fq.known [] fun ats h => by
  unfold Ah.Fq.arg.pre at h
  split at h
  · exact ⟨h, Wk.G3 (.cons .int (.cons .int (.cons (.fresh _ _) .nil)))⟩
  · cases h
theorem Ah.Eh.arg.known : Ah.Eh.arg.Kn := A3.Akd (P := _) (pre := Ah.Eh.pre) (out := Ah.Eh.out) Ah.Eh.known [] fun ats h => by
  unfold Ah.Eh.arg.pre at h
  split at h
  · exact ⟨h, Wk.G3 (.cons .int (.cons .int (.cons (.fresh _ _) .nil)))⟩
  · cases h
theorem Uk (N : Nat) {x : List Int} (hx : Cp x = true) : ∀ (k i F : Nat), i + k = x.length → k < F → A6.Bv.L0 N F x (i : Int) = some (.bool (Dx (x.drop i))) := by
  obtain ⟨hl, hu⟩ := Hj hx
  intro k
  induction k with
  | zero =>
    intro i F hi hF
    obtain ⟨F, rfl⟩ : ∃ G, F = G + 1 := ⟨F - 1, by omega⟩
    rw [A6.Bv.As, Ar, As7 (by omega), As6, Atg (by omega)]; rfl
  | succ k ih =>
    intro i F hi hF
    obtain ⟨F, rfl⟩ : ∃ G, F = G + 1 := ⟨F - 1, by omega⟩
    obtain ⟨n, hn, _⟩ := Bj (hu i (by omega))
    rw [A6.Bv.As, Ar, As3 (show (i : Int) < (x.length : Int) by omega), As2, As3 (show (0 : Int) ≤ (i : Int) by omega), As8, As2, As4, show Kd (x.getD i 0) = true by rw [hn]; exact H0 n, As2, V9, Gj (by omega)]
    unfold Dx
    rw [List.all_cons]
    cases decide (Bd (x.getD i 0) = 0) with
    | false => rfl
    | true =>
      rw [Bool.not_true, As6, Bool.true_and, Am (by omega) (by omega)]
      exact ih (i + 1) F (by omega) (by omega)
theorem A6.Bv.known : A6.Bv.Kn := A6.Bv.Ac (.cons A1.Kind.known .nil) fun x hp => by
  refine ⟨x.length + 1, .bool (Dx (x.drop 1)), [], ?_, .bool⟩
  rw [A6.Bv.ev]
  by_cases h : x.length = 0
  · rw [A6.Bv.As, Ar, As7 (by omega), As6, Atg (by omega)]; rfl
  · exact Uk (x.length + 1) hp (x.length - 1) 1 (x.length + 1) (by omega) (by omega)
theorem Yw (N : Nat) {x : List Int} (hx : Cp x = true) : ∀ (k i F : Nat), i + k = x.length → k < F → A6.lead.L0 N F x (i : Int) = some (.int .i64 (Pe (x.drop i) (i : Int))) := by
  obtain ⟨hl, hu⟩ := Hj hx
  intro k
  induction k with
  | zero =>
    intro i F hi hF
    obtain ⟨F, rfl⟩ : ∃ G, F = G + 1 := ⟨F - 1, by omega⟩
    rw [A6.lead.As, Ar, As7 (by omega), As6, Atg (by omega)]; rfl
  | succ k ih =>
    intro i F hi hF
    obtain ⟨F, rfl⟩ : ∃ G, F = G + 1 := ⟨F - 1, by omega⟩
    obtain ⟨n, hn, _⟩ := Bj (hu i (by omega))
    rw [A6.lead.As, Ar, As3 (show (i : Int) < (x.length : Int) by omega), As2, As3 (show (0 : Int) ≤ (i : Int) by omega), As8, As2, As4, show Kd (x.getD i 0) = true by rw [hn]; exact H0 n, As2, V9, Gj (by omega), Pe]
    by_cases h : Bd (x.getD i 0) = 0
    · rw [As3 h, if_pos h, Bool.not_true, As6, Am (by omega) (by omega)]
      exact ih (i + 1) F (by omega) (by omega)
    · rw [As7 h, if_neg h]; rfl
theorem A6.lead.known : A6.lead.Kn := A6.lead.Ac (.cons A1.Kind.known .nil) fun x hp => by
  refine ⟨x.length + 1, .int .i64 (Pe x 0), [], ?_, .int⟩
  rw [A6.lead.ev]
  exact Yw (x.length + 1) hp x.length 0 (x.length + 1) (by omega) (by omega)
theorem Ahk : ∀ (x : List Int) (i : Nat), Dx x = false → ∃ j : Nat, Pe x (i : Int) = ((i + j : Nat) : Int) ∧ j < x.length ∧ x.getD j 0 = N6 x
  | [], i, h => by cases h
  | b :: l, i, h => by
    unfold Pe N6
    by_cases hk : Bd b = 0
    · rw [if_pos hk, if_pos hk]
      have h' : Dx l = false := by
        unfold Dx at h ⊢
        rw [List.all_cons, As3 hk, Bool.true_and] at h
        exact h
      obtain ⟨j, e1, e2, e3⟩ := Ahk l (i + 1) h'
      refine ⟨j + 1, ?_, by simp; omega, by simpa using e3⟩
      have : ((i : Int) + 1) = ((i + 1 : Nat) : Int) := rfl
      rw [this, e1]; omega
    · rw [if_neg hk, if_neg hk]
      exact ⟨0, rfl, by simp, rfl⟩
theorem Abh {x : List Int} (h : Dx (x.drop 1) = false) : Dx x = false := by
  cases x with
  | nil => exact h
  | cons b l =>
    have h : Dx l = false := h
    unfold Dx at h ⊢
    rw [List.all_cons, h, Bool.and_false]
theorem Yu (N : Nat) {x : List Int} (h64 : x.length ≤ 64) : ∀ (k i F : Nat), i + 1 + k = x.length → k < F →
    A6.Df.L0 N F x ((i + 1 : Nat) : Int) (Ip (i + 1) fun _ => 0) = some (.tup [.agg [.ints (.own 100004 tB) .u64 (Ip x.length fun _ => 0), .int .u64 0, .int .u64 (x.getD 0 0)], .bool true]) := by
  intro k
  induction k with
  | zero =>
    intro i F hi hF
    obtain ⟨F, rfl⟩ : ∃ G, F = G + 1 := ⟨F - 1, by omega⟩
    rw [A6.Df.As, Ar, As7 (by omega), As6, As3 (by omega), As2, show i + 1 = x.length by omega]
  | succ k ih =>
    intro i F hi hF
    obtain ⟨F, rfl⟩ : ∃ G, F = G + 1 := ⟨F - 1, by omega⟩
    rw [A6.Df.As, Ar, As3 (by omega), As2, As3 (by rw [Oo (by omega)]; unfold Hc; omega), As2, Am (by omega) (by omega)]
    have := ih (i + 1) F (by omega) (by omega)
    rw [I9 (i + 1 + 1) (i + 1) _ rfl, Io] at this
    rw [I9 (i + 1) i _ rfl]
    exact this
theorem Aa9 (N : Nat) {y : List Int} {mu beta d : Int} (ay : Al y = true) (hmu : Ag mu = true) (hd : Ag d = true) (h64 : y.length ≤ 64) : ∀ (k i F : Nat), i + 1 + k = y.length → k < F →
    A6.Df.L2 N F y mu beta d ((i + 1 : Nat) : Int) (Ip (i + 1) fun j => Ex (y.getD j 0) d) = some (.tup [.agg [.ints (.own 100004 tB) .u64 (Ip y.length fun j => Ex (y.getD j 0) d), .int .u64 (Ex (Ei mu (y.getD 0 0)) mu), .int .u64 beta], .bool true]) := by
  intro k
  induction k with
  | zero =>
    intro i F hi hF
    obtain ⟨F, rfl⟩ : ∃ G, F = G + 1 := ⟨F - 1, by omega⟩
    have hy := H7 ay 0
    rw [A6.Df.G5, Ar, As7 (by omega), As6, As3 (show (0 : Int) < (y.length : Int) by omega), As2, As3 (show 0 < y.length by omega), As2, hmu, hy, As8, As2, Ok hmu hy, As8, As2, show i + 1 = y.length by omega]
  | succ k ih =>
    intro i F hi hF
    obtain ⟨F, rfl⟩ : ∃ G, F = G + 1 := ⟨F - 1, by omega⟩
    rw [A6.Df.G5, Ar, As3 (show ((i + 1 : Nat) : Int) < (y.length : Int) by omega), As2, As3 (show (0 : Int) ≤ ((i + 1 : Nat) : Int) by omega), As8, As2, As4, As3 (show i + 1 < y.length by omega), As2, H7 ay, hd, As8, As2, As3 (by rw [Oo (by omega)]; unfold Hc; omega), As2, Am (by omega) (by omega)]
    have := ih (i + 1) F (by omega) (by omega)
    rw [I9 (i + 1 + 1) (i + 1) _ rfl, Io] at this
    rw [I9 (i + 1) i _ rfl]
    exact this
theorem Wz (N : Nat) {x : List Int} (hx : Cp x = true) (hl : x.length ≤ 64) : ∀ (k i F : Nat), i + k = x.length → k < F →
    A6.Df.L1 N F x (i : Int) ((x.take i).map fun b => Bu b (-Bo (Be x))) = A6.Df.L1 N (F - k) x (x.length : Int) (Bl x (-Bo (Be x))) := by
  obtain ⟨_, hu⟩ := Hj hx
  have he := Ya (Be x)
  intro k
  induction k with
  | zero =>
    intro i F hi hF
    rw [show i = x.length by omega, List.take_of_length_le (Nat.le_refl _)]; rfl
  | succ k ih =>
    intro i F hi hF
    obtain ⟨F, rfl⟩ : ∃ G, F = G + 1 := ⟨F - 1, by omega⟩
    rw [A6.Df.B5, Ar, As3 (show (i : Int) < (x.length : Int) by omega), As2, As3 (show (0 : Int) ≤ (i : Int) by omega), As8, As2, As4, Am (x := (0 : Int) - Bo (Be x)) (by omega) (by omega), show (0 : Int) - Bo (Be x) = -Bo (Be x) by omega,
      show C4 (List.getD x i 0) (-Bo (Be x)) = true from Ad.2 ⟨hu i (by omega), Av.2 (by omega)⟩, As2, As3 (by rw [List.length_map, List.length_take]; unfold Hc; omega), As2, Am (by omega) (by omega)]
    have := ih (i + 1) F (by omega) (by omega)
    rw [Wj (by omega)] at this
    rw [show F + 1 - (k + 1) = F - k by omega]
    exact this
theorem A6.Df.known : A6.Df.Kn := A6.Df.Ac (.cons A1.Finite.known (.cons A1.De.known (.cons A1.Neg.known (.cons Bn.K8.known (.cons Ai.Bm.known (.cons Ai.Div.known (.cons Ai.Norm.known (.cons Ai.Bp.known (.cons Ai.Sub.known (.cons A6.lead.known (.cons A6.Bv.known .nil))))))))))) fun x hp => by
  obtain ⟨hx, hl⟩ := Ad.1 (show (Cp x && C3 (1 ≤ List.length x ∧ List.length x ≤ 64)) = true from hp)
  have hl := Av.1 hl
  have al := Aaj hx
  have he := Ya (Be x)
  show ∃ N dv drops, _ = some dv ∧ Wk drops dv (DV.tup [.agg [.ints .fresh .u64 (I4 x).1, .int .u64 (I4 x).2.1, .int .u64 (I4 x).2.2.1], .bool (decide ((I4 x).2.2.2 = 0))])
  have hrun := A6.Df.ev 66 x
  rw [hx, As2] at hrun
  unfold I4
  by_cases h3 : Dx (x.drop 1) = true
  · rw [h3, As2] at hrun
    rw [if_pos h3]
    exact ⟨66, _, [100004], hrun.trans (Yu 66 (by omega) (x.length - 1) 0 66 (by omega) (by omega)), Wk.Gm (.cons (Wk.G3 (.cons (.drop _ _ _ _ (List.mem_singleton.2 rfl)) (.cons .int (.cons .int .nil)))) (.cons .bool .nil))⟩
  · rw [if_neg h3]
    have h3 : Dx (x.drop 1) = false := by simpa using h3
    rw [h3, As6, As2, Nl, As2] at hrun
    have hs := Wz 66 hx hl.2 x.length 0 66 (by omega) (by omega)
    have hrun := hrun.trans hs
    obtain ⟨j, j1, j2, j3⟩ := Ahk x 0 (Abh h3)
    rw [Nat.zero_add] at j1
    have j1 : Pe x 0 = (j : Int) := j1
    have ly := Zf x (-Bo (Be x))
    have ay := Zg (-Bo (Be x)) al
    have oky : Cp (Bl x (-Bo (Be x))) = true := Ik ay (by omega)
    have iy := H7 ay 0
    have gy := Qu (x := x) (k := -Bo (Be x)) (j := 0) (by omega)
    have sp : ∀ mu : Int, Ag mu = true → C4 mu (Bo (Be x)) = true := fun mu h => Ad.2 ⟨h, Av.2 (by omega)⟩
    have ny := V5 (Bl x (-Bo (Be x)))
    obtain ⟨F, hF⟩ : ∃ F, 66 - x.length = F + 1 := ⟨65 - x.length, by omega⟩
    have key : ∀ mu : Int, muI x = mu → Ag mu = true → A6.Df.L2 66 66 (Bl x (-Bo (Be x))) mu (Bu mu (Bo (Be x))) (Ei ((Bl x (-Bo (Be x))).getD 0 0) mu) 1 [4607182418800017408] = some (.tup [.agg [.ints (.own 100004 tB) .u64 (Ri x), .int .u64 (R7 x), .int .u64 (Er x)], .bool true]) := by
      intro mu hmu hi
      have := Aa9 66 (y := Bl x (-Bo (Be x))) (mu := mu) (beta := Bu mu (Bo (Be x))) (d := Ei ((Bl x (-Bo (Be x))).getD 0 0) mu) ay hi (Ok iy hi) (by omega) (x.length - 1) 0 66 (by omega) (by omega)
      have e1 : Ip (Bl x (-Bo (Be x))).length (fun j => Ex (List.getD (Bl x (-Bo (Be x))) j 0) (Ei (List.getD (Bl x (-Bo (Be x))) 0 0) mu)) = Ri x := by
        unfold Ri
        rw [ly, gy, ← hmu]
        exact Zi fun j hj => by rw [Qu hj]; rfl
      have e2 : Ex (Ei mu (List.getD (Bl x (-Bo (Be x))) 0 0)) mu = R7 x := by
        unfold R7
        rw [gy, hmu]; rfl
      have e3 : Bu mu (Bo (Be x)) = Er x := by unfold Er; rw [hmu]
      rw [e1, e2] at this
      rw [e3] at this ⊢
      exact this
    have fin : ∀ (b : Bool) (d : Option DV), Cv (Er x) = b → (d = bif (!b) then some (.tup [.agg [.nil, .int .u64 (0 : Int), .int .u64 (0 : Int)], .bool false]) else some (.tup [.agg [.ints (.own 100004 tB) .u64 (Ri x), .int .u64 (R7 x), .int .u64 (Er x)], .bool true])) →
        ∃ dv drops, d = some dv ∧ Wk drops dv (DV.tup [.agg [.ints .fresh .u64 (if Cv (Er x) = true then (Ri x, R7 x, Er x, (0 : Int)) else ([], 0, 0, 2)).1, .int .u64 (if Cv (Er x) = true then (Ri x, R7 x, Er x, (0 : Int)) else ([], 0, 0, 2)).2.1, .int .u64 (if Cv (Er x) = true then (Ri x, R7 x, Er x, (0 : Int)) else ([], 0, 0, 2)).2.2.1], .bool (decide ((if Cv (Er x) = true then (Ri x, R7 x, Er x, (0 : Int)) else ([], 0, 0, 2)).2.2.2 = 0))]) := by
      intro b d hb h
      cases b with
      | true =>
        rw [hb, if_pos rfl]
        exact ⟨_, [100004], h, Wk.Gm (.cons (Wk.G3 (.cons (.drop _ _ _ _ (List.mem_singleton.2 rfl)) (.cons .int (.cons .int .nil)))) (.cons .bool .nil))⟩
      | false =>
        rw [hb, if_neg (by decide)]
        exact ⟨_, [], h, Wk.Gm (.cons (Wk.G3 (.cons Li (.cons .int (.cons .int .nil)))) (.cons .bool .nil))⟩
    have go := fin (Cv (Er x)) _ rfl (hrun.trans ?_)
    · obtain ⟨dv, drops, k1, k2⟩ := go
      exact ⟨66, dv, drops, k1, k2⟩
    have hlead := V8 al
    rw [hF, A6.Df.B5, Ar, As7 (show ¬ (x.length : Int) < (x.length : Int) by omega), As6, oky, As2, hx, As2, j1, As3 (show (0 : Int) ≤ (j : Int) by omega), As3 (show (j : Int) < (x.length : Int) by omega), As8, As2, As4, j3, hlead, As2]
    have d1 : decide ((0 : Int) < ((Bl x (-Bo (Be x))).length : Int)) = true := As3 (by omega)
    have d2 : decide (0 < (Bl x (-Bo (Be x))).length) = true := As3 (by omega)
    cases hn : Dh (N6 x) with
    | true =>
      have hm : muI x = C9 (Bl x (-Bo (Be x))) := by unfold muI; rw [if_pos hn]
      have eb : Er x = Bu (C9 (Bl x (-Bo (Be x)))) (Bo (Be x)) := by unfold Er; rw [hm]
      rw [Bool.not_true, As6, sp _ ny, As2, G9 ny, As2, key _ hm ny, d1, As2, d2, As2, iy, ny, As8, As2, eb]
    | false =>
      have hm : muI x = Cz (C9 (Bl x (-Bo (Be x)))) := by unfold muI; rw [if_neg (by rw [hn]; decide)]
      have my := Xj ny
      have eb : Er x = Bu (Cz (C9 (Bl x (-Bo (Be x))))) (Bo (Be x)) := by unfold Er; rw [hm]
      rw [Bool.not_false, As2, ny, As2, sp _ my, As2, G9 my, As2, key _ hm my, d1, As2, d2, As2, iy, my, As8, As2, eb]
open EqRef13 EqRef14
theorem Ag3 {c b i : Int} {l : List Int} {n j : Nat} (h : j < n) : (Cn c l b i n).getD j 0 = D0 c l (i + (j : Int)) b := by
  unfold Cn
  rw [Atc, List.getElem?_map, List.getElem?_range h]; rfl
theorem Po (a c b : Nat) : Int.toNat ((a : Int) * (c : Int) + (b : Int)) = a * c + b := by rw [← Atn, ← Int.natCast_add, As4]
section
variable {R C i k : Nat} {l v : List Int} {t : Int}
theorem W1 (N M0 : Nat) (r6 : R ≤ 6) (c6 : C ≤ 6) (al : Al l = true) (av : Al v = true) (hv : i + v.length ≤ R) {c : Nat} (hc : c < C) (hk : k ≤ c) : ∀ (cnt j F : Nat), j + cnt = v.length → cnt < F →
    A6.Apply.L1 N M0 F (R : Int) (C : Int) l (i : Int) v t (j : Int) (apS R C l i k v t c j) (c : Int) (Cn (C : Int) l (c : Int) (i : Int) (R - i)) (Sl (C : Int) l (i : Int) v t (c : Int)) =
    A6.Apply.L0 N M0 (R : Int) (C : Int) l (i : Int) v t ((c + 1 : Nat) : Int) (apS R C l i k v t (c + 1) 0) := by
  intro cnt
  induction cnt with
  | zero =>
    intro j F hj hF
    obtain ⟨F, rfl⟩ : ∃ G, F = G + 1 := ⟨F - 1, by omega⟩
    obtain rfl : j = v.length := by omega
    rw [A6.Apply.B5, Ar, As7 (by omega), As6, Am (by omega) (by omega), Aes]
    rfl
  | succ cnt ih =>
    intro j F hj hF
    obtain ⟨F, rfl⟩ : ∃ G, F = G + 1 := ⟨F - 1, by omega⟩
    have e1 : Ab ((i : Int) + (j : Int)) = ((i + j : Nat) : Int) := by rw [Am (by omega) (by omega)]; omega
    have hat : Cy (R : Int) (C : Int) (apS R C l i k v t c j) ((i + j : Nat) : Int) (c : Int) = true := Di r6 c6 (Ah0 c j) (by omega) hc
    have sl := Fv (C : Int) (c : Int) (i : Int) (R - i) l
    have a1 := H7 av j
    have a2 := H7 (Ol (c := (C : Int)) (b := (c : Int)) (i := (i : Int)) (n := R - i) al) j
    have a3 : Ag (Sl (C : Int) l (i : Int) v t (c : Int)) = true := Ju _ _
    have hx : Ei ((Cn (C : Int) l (c : Int) (i : Int) (R - i)).getD j 0) (Ea (Sl (C : Int) l (i : Int) v t (c : Int)) (v.getD j 0)) = O9 (C : Int) l (i : Int) (k : Int) v t ((i + j : Nat) : Int) (c : Int) := by
      rw [Aeq hk (by omega), Ag3 (by omega), Ag3 (by omega)]
    rw [A6.Apply.B5, Ar, As3 (show (j : Int) < (v.length : Int) by omega), As2, e1, sl, As3 (show (0 : Int) ≤ (j : Int) by omega), As3 (show (j : Int) < ((R - i : Nat) : Int) by omega), As8, As2, As2, As4, a3, a1, As8, As2, a2, Ju, As8, As2, hat, As2,
      Po, Ahz hc hk (by omega) hx, Am (by omega) (by omega)]
    exact ih (j + 1) F (by omega) (by omega)
theorem W2 (N : Nat) (r6 : R ≤ 6) (c6 : C ≤ 6) (hN : 7 < N) (hr : A9 (R : Int) (C : Int) l = true) (al : Al l = true) (av : Al v = true) (ht : Ag t = true) (hv : i + v.length ≤ R) : ∀ (cnt c F : Nat), c + cnt = C → k ≤ c → cnt < F →
    A6.Apply.L0 N F (R : Int) (C : Int) l (i : Int) v t (c : Int) (apS R C l i k v t c 0) =
    some (.agg [.int .i64 (R : Int), .int .i64 (C : Int), .ints .arg .u64 (Et R C l (i : Int) (k : Int) v t)]) := by
  intro cnt
  induction cnt with
  | zero =>
    intro c F hc hk hF
    obtain ⟨F, rfl⟩ : ∃ G, F = G + 1 := ⟨F - 1, by omega⟩
    obtain rfl : c = C := by omega
    rw [A6.Apply.As, Ar, As7 (by omega), As6, Ah1]
  | succ cnt ih =>
    intro c F hc hk hF
    obtain ⟨F, rfl⟩ : ∃ G, F = G + 1 := ⟨F - 1, by omega⟩
    have cp : Gk (R : Int) (C : Int) l (c : Int) = true := Ad.2 ⟨hr, Av.2 (by omega)⟩
    have e0 : Int.toNat ((R : Int) - (i : Int)) = R - i := by omega
    have st := Ac2 (c := (C : Int)) (b := (c : Int)) (i := (i : Int)) (l := l) (m := v.length) (n := R - i) (by omega)
    have sl2 := Fv (C : Int) (c : Int) (i : Int) (R - i) l
    have sl := Fv (C : Int) (c : Int) (i : Int) v.length l
    have sa := Ol (c := (C : Int)) (b := (c : Int)) (i := (i : Int)) (n := v.length) al
    have ft : Oc v (Cn (C : Int) l (c : Int) (i : Int) v.length) = true := Q7.2 ⟨by omega, by omega⟩
    rw [A6.Apply.As, Ar, As3 (by omega), As2, cp, Av.2 (show 0 ≤ (i : Int) ∧ (i : Int) ≤ (R : Int) by omega), As8, As2, e0, As4, st, sl2,
      As3 (show (0 : Int) ≤ (v.length : Int) by omega), As3 (show (v.length : Int) ≤ ((R - i : Nat) : Int) by omega), As8, As2, ft, av, sa, As8, As8, As2, ht, T4, As8, As2]
    have := W1 (t := t) N F r6 c6 al av hv (show c < C by omega) hk v.length 0 N (by omega) (by omega)
    exact this.trans (ih (c + 1) F (by omega) (by omega) (by omega))
end
theorem A6.Apply.known : A6.Apply.Kn := A6.Apply.Ac (.cons Ai.Hg.known (.cons Ai.Mul.known (.cons Ai.Sub.known (.cons Ah.Pg.known (.cons Ah.Fq.arg.known .nil))))) fun r c l i k v t hp => by
  obtain ⟨h1, ht⟩ := Ad.1 (show (((A9 r c l && G2 r c i k v) && (Al l && Al v)) && Ag t) = true from hp)
  obtain ⟨h2, h3⟩ := Ad.1 h1
  obtain ⟨hr, hb⟩ := Ad.1 h2
  obtain ⟨al, av⟩ := Ad.1 h3
  have hb := of_decide_eq_true hb
  obtain ⟨R, C, rfl, rfl, r6, c6, hl⟩ := C0 hr
  obtain ⟨i, rfl⟩ : ∃ j : Nat, i = j := ⟨i.toNat, by omega⟩
  obtain ⟨k, rfl⟩ : ∃ j : Nat, k = j := ⟨k.toNat, by omega⟩
  refine ⟨8, A6.Apply.out [.i (R : Int), .i (C : Int), .l l, .i (i : Int), .i (k : Int), .l v, .i t], [], ?_, Wk.G3 (.cons .int (.cons .int (.cons .Vw .nil)))⟩
  show _ = some (DV.agg [.int .i64 (R : Int), .int .i64 (C : Int), .ints .arg .u64 (Et (Int.toNat (R : Int)) (Int.toNat (C : Int)) l (i : Int) (k : Int) v t)])
  rw [A6.Apply.ev, As4, As4]
  have := W2 (R := R) (C := C) (i := i) (k := k) (l := l) (v := v) (t := t) 8 r6 c6 (by omega) hr al av ht (by omega) (C - k) k 8 (by omega) (by omega) (by omega)
  rw [Aer hl] at this
  exact this
theorem Aio (N : Nat) {R C j : Nat} {l : List Int} {x : Int} (r6 : R ≤ 6) (c6 : C ≤ 6) (hj : j < C) : ∀ (cnt i F : Nat), i + cnt = R → j < i → cnt < F →
    B4.Db.L0 N F (R : Int) (C : Int) (j : Int) (i : Int) (clS R C l j x i) = some (.agg [.int .i64 (R : Int), .int .i64 (C : Int), .ints .arg .u64 (Mk R C l j x)]) := by
  intro cnt
  induction cnt with
  | zero =>
    intro i F hi hji hF
    obtain ⟨F, rfl⟩ : ∃ G, F = G + 1 := ⟨F - 1, by omega⟩
    obtain rfl : i = R := by omega
    rw [B4.Db.As, Ar, As7 (by omega), As6, Ahw]
  | succ cnt ih =>
    intro i F hi hji hF
    obtain ⟨F, rfl⟩ : ∃ G, F = G + 1 := ⟨F - 1, by omega⟩
    have hat : Cy (R : Int) (C : Int) (clS R C l j x i) (i : Int) (j : Int) = true := Di r6 c6 (Ahv i) (by omega) hj
    rw [B4.Db.As, Ar, As3 (by omega), As2, hat, As2, Po, Ahu hj hji, Am (by omega) (by omega)]
    exact ih (i + 1) F (by omega) (by omega) (by omega)
theorem B4.Db.known : B4.Db.Kn := B4.Db.Ac (.cons Ah.Fq.arg.known .nil) fun r c l j b hp => by
  obtain ⟨hr, hj⟩ := Ad.1 (show (A9 r c l && C3 (0 ≤ j ∧ j < r ∧ j < c)) = true from hp)
  have hj := Av.1 hj
  obtain ⟨R, C, rfl, rfl, r6, c6, hl⟩ := C0 hr
  obtain ⟨j, rfl⟩ : ∃ i : Nat, j = i := ⟨j.toNat, by omega⟩
  refine ⟨8, .agg [.int .i64 (R : Int), .int .i64 (C : Int), .ints .arg .u64 (Mk R C l j b)], [], ?_, ?_⟩
  · rw [B4.Db.ev, Di r6 c6 hl (by omega) (by omega), As2, Po, U2 hl (by omega), Am (by omega) (by omega)]
    exact Aio 8 r6 c6 (by omega) (R - (j + 1)) (j + 1) 8 (by omega) (by omega) (by omega)
  · show Wk _ _ (DV.agg [.int .i64 (R : Int), .int .i64 (C : Int), .ints .arg .u64 (Mk (Int.toNat (R : Int)) (Int.toNat (C : Int)) l (Int.toNat (j : Int)) b)])
    rw [As4, As4, As4]
    exact Wk.G3 (.cons .int (.cons .int (.cons .Vw .nil)))
def U6 (rows : List (List DV)) (ms : List (List Int × Int)) : Prop := rows.length = ms.length ∧ ∀ i, i < ms.length → ∃ b : Int, rows.getD i [] = [.ints .arg .u64 (ms.getD i ([], 0)).1, .int .u64 (ms.getD i ([], 0)).2, .int .u64 b]
theorem U6.snoc {rows : List (List DV)} {ms : List (List Int × Int)} (h : U6 rows ms) (v : List Int) (t b : Int) : U6 (rows ++ [[.ints .arg .u64 v, .int .u64 t, .int .u64 b]]) (ms ++ [(v, t)]) := by
  refine ⟨by rw [List.length_append, List.length_append, h.1]; rfl, fun i hi => ?_⟩
  rw [List.length_append] at hi
  by_cases hlt : i < ms.length
  · obtain ⟨b', hb⟩ := h.2 i hlt
    refine ⟨b', ?_⟩
    rw [Atc, List.getElem?_append_left (by rw [h.1]; exact hlt), ← Atc, hb, Atc (l := ms ++ _), List.getElem?_append_left hlt, ← Atc]
  · have he : i = ms.length := by
      have : i < ms.length + 1 := hi
      omega
    refine ⟨b, ?_⟩
    rw [Atc, List.getElem?_append_right (by rw [h.1]; omega), Atc (l := ms ++ _), List.getElem?_append_right (by omega), he, h.1, Nat.sub_self]
    rfl
def Alr : DV := .agg [.int .i64 0, .int .i64 0, .nil, .int .i64 0, .int .i64 0, .nil, .bool false]
theorem Al2 {x : List Int} (h0 : x.length ≠ 0) (h : x.length ≤ 64) (hf : Dl x = true) : Ce x = I4 x := by
  unfold Ce; rw [if_neg (by omega), if_pos hf]
theorem Yx (N : Nat) {R C : Nat} (l0 : List Int) (r6 : R ≤ 6) (c6 : C ≤ 6) : ∀ (cnt j F : Nat) (l : List Int) (rows : List (List DV)) (ms : List (List Int × Int)), j + cnt = Hm R C → cnt < F → l.length = R * C → Al l = true → ms.length = j → U6 rows ms →
    (Mj R C cnt j l = none → B4.By.L0 N F (R : Int) (C : Int) l0 (j : Int) l rows = some Alr) ∧
    (∀ x, Mj R C cnt j l = some x → ∃ rows', U6 rows' (ms ++ x.2) ∧ B4.By.L0 N F (R : Int) (C : Int) l0 (j : Int) l rows = B4.By.L1 N N (R : Int) (C : Int) (Ab ((rows'.length : Int) - 1)) x.1 rows' (Ih R)) := by
  intro cnt
  induction cnt with
  | zero =>
    intro j F l rows ms hj hF hl al hms hrows
    obtain ⟨F, rfl⟩ : ∃ G, F = G + 1 := ⟨F - 1, by omega⟩
    unfold Hm at hj
    have hlt : (A4 (j : Int) (C : Int) && A4 (j : Int) (Ab ((R : Int) - 1))) = false := by
      rw [Ar, Ar, Am (by omega) (by omega), Bool.and_eq_false_iff, Atl, Atl]; omega
    refine ⟨fun h => (by cases h), fun x hx => ?_⟩
    cases hx
    refine ⟨rows, by rw [List.append_nil]; exact hrows, ?_⟩
    rw [B4.By.As, hlt, As6, Qs r6, As2, As4]
  | succ cnt ih =>
    intro j F l rows ms hj hF hl al hms hrows
    obtain ⟨F, rfl⟩ : ∃ G, F = G + 1 := ⟨F - 1, by omega⟩
    have hj0 := hj
    unfold Hm at hj
    have hr := Iq r6 c6 hl
    have hlt : (A4 (j : Int) (C : Int) && A4 (j : Int) (Ab ((R : Int) - 1))) = true := by
      rw [Ar, Ar, Am (by omega) (by omega), As3 (by omega), As3 (by omega)]; rfl
    have cp : Gk (R : Int) (C : Int) l (j : Int) = true := Ad.2 ⟨hr, Av.2 (by omega)⟩
    have ec : Cn (C : Int) l (j : Int) (j : Int) (Int.toNat ((R : Int) - (j : Int))) = Ep R C l j := by unfold Ep; rw [show Int.toNat ((R : Int) - (j : Int)) = R - j by omega]
    have ca : Al (Ep R C l j) = true := Ol al
    have cl : (Ep R C l j).length = R - j := Fv _ _ _ _ _
    have cok := Ik ca (by omega)
    rw [B4.By.As, hlt, As2, cp, Av.2 (show 0 ≤ (j : Int) ∧ (j : Int) ≤ (R : Int) by omega), As8, As2, ec, cok, As2, As4, As4, As4]
    unfold Mj
    by_cases hf : Dl (Ep R C l j) = true
    · have hmk := Al2 (x := Ep R C l j) (by omega) (by omega) hf
      rw [hf, Bool.not_true, As6, Av.2 (show 1 ≤ (Ep R C l j).length ∧ (Ep R C l j).length ≤ 64 by omega), As8, As2, ← hmk]
      by_cases he : (Ce (Ep R C l j)).2.2.2 = 0
      · have hml := Tn he
        have hma := To ca
        have hap : G2 (R : Int) (C : Int) (j : Int) (j : Int) (Ce (Ep R C l j)).1 = true := As3 (by omega)
        have hlen := Kq R C l (j : Int) (j : Int) (Ce (Ep R C l j)).1 (Ce (Ep R C l j)).2.1
        have hn := ih (j + 1) F (Xh R C l j) (rows ++ [[.ints .arg .u64 (Ce (Ep R C l j)).1, .int .u64 (Ce (Ep R C l j)).2.1, .int .u64 (Ce (Ep R C l j)).2.2.1]]) (ms ++ [((Ce (Ep R C l j)).1, (Ce (Ep R C l j)).2.1)]) (by omega) (by omega) (M5 _ _ _ _) (V6 al j) (by rw [List.length_append, hms]; rfl) (hrows.snoc _ _ _)
        rw [if_pos he, As3 he, Bool.not_true, As6, hr, hap, al, hma.1, hma.2.1, As8, As8, As8, As2, Iq r6 c6 hlen, Av.2 (show 0 ≤ (j : Int) ∧ (j : Int) < (R : Int) ∧ (j : Int) < (C : Int) by omega), As8, As2, As3 (show rows.length + 1 ≤ Adw by rw [hrows.1]; unfold Adw; omega), As2, Am (by omega) (by omega)]
        refine ⟨fun h => ?_, fun x hx => ?_⟩
        · rw [Option.map_eq_none_iff] at h
          exact hn.1 h
        · rw [Option.map_eq_some_iff] at hx
          obtain ⟨y, hy, rfl⟩ := hx
          obtain ⟨rows', h1, h2⟩ := hn.2 y hy
          refine ⟨rows', ?_, h2⟩
          rw [List.append_assoc] at h1
          exact h1
      · rw [if_neg he, As7 he, Bool.not_false, As2]
        exact ⟨fun _ => rfl, fun x hx => (by cases hx)⟩
    · have hf' : Dl (Ep R C l j) = false := by simpa using hf
      have he : (Ce (Ep R C l j)).2.2.2 ≠ 0 := by
        unfold Ce
        rw [if_neg (by omega), if_neg hf]
        exact (by decide : (4 : Int) ≠ 0)
      rw [hf', Bool.not_false, As2, if_neg he]
      exact ⟨fun _ => rfl, fun x hx => (by cases hx)⟩
theorem Yy (N : Nat) {R C : Nat} {L : List Int} (r6 : R ≤ 6) {ms : List (List Int × Int)} {rows : List (List DV)} (hrows : U6 rows ms) (hm : Zu R 0 ms) (aL : Cp L = true) (hn : ms.length ≤ 6) : ∀ (j F : Nat), j ≤ ms.length → j < F →
    B4.By.L1 N F (R : Int) (C : Int) ((j : Int) - 1) L rows (Gu R j (ms.drop j) (Ih R)) =
    bif (Dl (Gu R 0 ms (Ih R)) && Dl L) then some (.agg [.int .i64 (R : Int), .int .i64 (R : Int), .ints .arg .u64 (Gu R 0 ms (Ih R)), .int .i64 (R : Int), .int .i64 (C : Int), .ints .arg .u64 L, .bool true]) else some Alr := by
  have h36 := Akz r6
  intro j
  induction j with
  | zero =>
    intro F _ hF
    obtain ⟨F, rfl⟩ : ∃ G, F = G + 1 := ⟨F - 1, by omega⟩
    have hb := Ra R ms 0 (Ih R) (T2 R) (by unfold Ih; exact Ci _ _ _)
    have ok1 : Cp (Gu R 0 ms (Ih R)) = true := Ik hb.1 (by omega)
    rw [B4.By.B5, D6, As7 (by omega), As6, List.drop_zero, ok1, As2, aL, Bool.or_true, As2]
    cases Dl (Gu R 0 ms (Ih R)) with
    | false => rfl
    | true => cases Dl L <;> rfl
  | succ j ih =>
    intro F hj hF
    obtain ⟨F, rfl⟩ : ∃ G, F = G + 1 := ⟨F - 1, by omega⟩
    have ej : (((j + 1 : Nat) : Int)) - 1 = (j : Int) := by omega
    have hg := Ut hm j (by omega)
    have hb := Ra R (ms.drop (j + 1)) (j + 1) (Ih R) (T2 R) (by unfold Ih; exact Ci _ _ _)
    have hr1 := Iq r6 r6 hb.2
    have hap : G2 (R : Int) (R : Int) (j : Int) 0 (ms.getD j ([], 0)).1 = true := As3 (by omega)
    obtain ⟨b, hrow⟩ := hrows.2 j (by omega)
    rw [B4.By.B5, ej, D6, As3 (show (0 : Int) ≤ (j : Int) by omega), As2, hrows.1, As3 (show (j : Int) < (ms.length : Int) by omega), As8, As2, As4, As3 (show j < ms.length by omega), hrow, As4]
    show (bif true then bif true then bif true then (bif (((A9 (R : Int) (R : Int) (Gu R (j + 1) (ms.drop (j + 1)) (Ih R)) && G2 (R : Int) (R : Int) (j : Int) (0 : Int) (ms.getD j ([], 0)).1) && (Al (Gu R (j + 1) (ms.drop (j + 1)) (Ih R)) && Al (ms.getD j ([], 0)).1)) && Ag (ms.getD j ([], 0)).2) then
      B4.By.L1 N F (R : Int) (C : Int) (Ab ((j : Int) - (1 : Int))) L rows (Et R R (Gu R (j + 1) (ms.drop (j + 1)) (Ih R)) (j : Int) (0 : Int) (ms.getD j ([], 0)).1 (ms.getD j ([], 0)).2) else none) else none else none else none) = _
    rw [As2, As2, As2, hr1, hap, hb.1, hg.1, hg.2.1, As8, As8, As8, As2, Am (by omega) (by omega), ← Aah (by omega)]
    exact ih F (by omega) (by omega)
theorem Aqe {drops : List Nat} {e : Int} : Wk drops Alr (DV.agg [.int .i64 (Nh e).1, .int .i64 (Nh e).2.1, .ints .arg .u64 (Nh e).2.2.1, .int .i64 (Nh e).1, .int .i64 (Nh e).2.1, .ints .arg .u64 (Nh e).2.2.1, .bool false]) :=
  Wk.G3 (.cons .int (.cons .int (.cons Li (.cons .int (.cons .int (.cons Li (.cons .bool .nil)))))))
theorem B4.By.known : B4.By.Kn := B4.By.Ac (.cons Ai.Finite.known (.cons Ah.Pg.known (.cons Ah.Eh.arg.known (.cons A6.Apply.known (.cons A6.Df.known (.cons B4.Db.known .nil)))))) fun r c l hp => by
  obtain ⟨h1, al⟩ := Ad.1 (show ((A9 r c l && Dl l) && Al l) = true from hp)
  obtain ⟨hr, hf⟩ := Ad.1 h1
  have hc : C5 r c l = 0 := Anc hr hf
  obtain ⟨R, C, rfl, rfl, r6, c6, hl⟩ := C0 hr
  show ∃ N dv drops, _ = some dv ∧ Wk drops dv (DV.agg [.int .i64 (qX (R : Int) (C : Int) l).1, .int .i64 (qX (R : Int) (C : Int) l).2.1, .ints .arg .u64 (qX (R : Int) (C : Int) l).2.2.1, .int .i64 (rX (R : Int) (C : Int) l).1, .int .i64 (rX (R : Int) (C : Int) l).2.1, .ints .arg .u64 (rX (R : Int) (C : Int) l).2.2.1, .bool (decide (Ez (R : Int) (C : Int) l = 0))])
  have hfe := Q9 hc
  rw [As4, As4] at hfe
  have hrun := B4.By.ev 8 (R : Int) (C : Int) l
  obtain ⟨d1, d2⟩ := Yx 8 l r6 c6 (Hm R C) 0 8 l [] [] (by omega) (by unfold Hm; omega) hl al rfl ⟨rfl, fun i h => absurd h (Nat.not_lt_zero _)⟩
  have bad : ∀ d : Option DV, Ez (R : Int) (C : Int) l = 2 → d = some Alr → ∃ dv drops, d = some dv ∧ Wk drops dv (DV.agg [.int .i64 (qX (R : Int) (C : Int) l).1, .int .i64 (qX (R : Int) (C : Int) l).2.1, .ints .arg .u64 (qX (R : Int) (C : Int) l).2.2.1, .int .i64 (rX (R : Int) (C : Int) l).1, .int .i64 (rX (R : Int) (C : Int) l).2.1, .ints .arg .u64 (rX (R : Int) (C : Int) l).2.2.1, .bool (decide (Ez (R : Int) (C : Int) l = 0))]) := fun d he h => by
    obtain ⟨e1, e2⟩ := W4 he (by decide)
    rw [e1, e2, he]
    exact ⟨Alr, [], h, Aqe⟩
  cases hx : J0 R C l with
  | none =>
    have hfo : Lg R C l = false := by unfold Lg; rw [hx]; rfl
    rw [hfo, if_neg (by decide)] at hfe
    obtain ⟨dv, drops, k1, k2⟩ := bad _ hfe (hrun.trans (d1 hx))
    exact ⟨8, dv, drops, k1, k2⟩
  | some x =>
    obtain ⟨x1, x2, x3, x4⟩ := Aeh hl al hx
    obtain ⟨rows, hrows, hd⟩ := d2 x hx
    rw [List.nil_append] at hrows
    have h36 := Nat.mul_le_mul r6 c6
    have hn : x.2.length ≤ 6 := by rw [x3]; unfold Hm; omega
    have hb := Yy 8 (C := C) r6 hrows x4 (Ik x1 (by omega)) hn x.2.length 8 (Nat.le_refl _) (by omega)
    rw [Atg (Nat.le_refl _)] at hb
    rw [hrows.1, Am (by omega) (by omega)] at hd
    have hd := hd.trans hb
    have hq : Lu R C l = Gu R 0 x.2 (Ih R) := by unfold Lu; rw [hx]
    have hrr : Jz R C l = x.1 := by unfold Jz; rw [hx]
    have hfo : Lg R C l = (Dl (Gu R 0 x.2 (Ih R)) && Dl x.1) := by unfold Lg; rw [hx, hq, hrr]; rfl
    rw [← hfo, ← hq, ← hrr] at hd
    cases hk : Lg R C l with
    | false =>
      rw [hk, if_neg (by decide)] at hfe
      rw [hk, As6] at hd
      obtain ⟨dv, drops, k1, k2⟩ := bad _ hfe (hrun.trans hd)
      exact ⟨8, dv, drops, k1, k2⟩
    | true =>
      rw [hk, if_pos rfl] at hfe
      rw [hk, As2] at hd
      obtain ⟨e1, e2⟩ := V1 hfe
      rw [e1, e2, hfe, As4, As4]
      exact ⟨8, _, [], hrun.trans hd, Wk.G3 (.cons .int (.cons .int (.cons .Vw (.cons .int (.cons .int (.cons .Vw (.cons .bool .nil)))))))⟩
namespace EqLow
theorem E3 : ∀ a : Bool, (a && true) = a := by decide
theorem Jn : ∀ a b : Bool, ((a && b) && true) = (a && b) := by decide
theorem Iw : ∀ a b : Bool, (bif a then b else false) = (a && b) := by decide
theorem Ia : ∀ a : Bool, (((!a) || (a == true)) && true) = true := by decide
theorem Gd : ∀ a : Bool, ((!(a == true)) || ((((!(a == true)) || (a == true)) && (((!(a == true)) || (a == true)) && true)) && true)) = true := by decide
theorem Jg : ∀ a : Bool, ((!(a == true)) || ((((!(a == true)) || (a == true)) && true) && true)) = true := by decide
theorem Ld : ∀ a : Bool, ((!(a == true)) || true) = true := by decide
def A2.Flat.hint : Nat → Option Ba
  | 0 => some { keep := [1, 3, 4], objs := [], boxes := [1] }
  | 2 => some { keep := [1, 3, 5], objs := [], boxes := [1] }
  | _ => none
def A2.Flat.A7 : List (Nat × Entry) := [(94, Bn.G6.spec), (93, Bn.Max.spec), (95, Bn.Order.spec), (96, Ai.Bp.spec), (80, Ah.At.spec)]
def A2.Flat.E : Env := Bb (A5 A2.Flat.A7) (fun _ => false) A2.Flat.hint (fun _ => none)
def A2.Flat.L0 (N M : Nat) (r c : Int) (l : List Int) (p3 p4 : Int) : Option DV := B0 A2.Flat.E N Tryz.f26 (An Tryz.f26) [1, 1, 0, 1, 0] [] M ⟨F7 52 [(1, .ptr 1 0 0), (3, .int .u64 p3), (4, .int .i64 p4)], [(1, false, .box [.int .i64 r, .int .i64 c, .ints .arg .u64 l])]⟩
def A2.Flat.L1 (N M : Nat) (r c : Int) (l : List Int) (p5 p3_1 : Int) : Option DV := B0 A2.Flat.E N Tryz.f26 (An Tryz.f26) [1, 1, 1, 0, 1, 0] [] M ⟨F7 52 [(1, .ptr 1 0 0), (3, .int .u64 p3_1), (5, .int .i64 p5)], [(1, false, .box [.int .i64 r, .int .i64 c, .ints .arg .u64 l])]⟩
theorem A2.Flat.As (N M : Nat) (r c : Int) (l : List Int) (p3 p4 : Int) : A2.Flat.L0 N (M + 1) r c l p3 p4 = bif ((A4 p4 r) && (A4 p4 c)) then bif (Cy r c l p4 p4) then bif (Ag (D0 c l p4 p4)) then bif (Ag p3 && Ag (Ir (D0 c l p4 p4))) then A2.Flat.L0 N M r c l (N4 p3 (Ir (D0 c l p4 p4))) (Ab (p4 + (1 : Int))) else none else none else none else A2.Flat.L1 N N r c l (0 : Int) p3 :=
  Eq.trans (by kernel_rfl)
  (Ax (Ld (A4 p4 r)) (Ax (Ld (A4 p4 r)) (Ax (Jg (A4 p4 r)) (Ax (Gd (A4 p4 r)) (Ax (Ia (A4 p4 r)) (Cx (Iw (A4 p4 r) (A4 p4 c)) rfl rfl))))))
theorem A2.Flat.B5 (N M : Nat) (r c : Int) (l : List Int) (p5 p3_1 : Int) : A2.Flat.L1 N (M + 1) r c l p5 p3_1 = bif ((A4 p5 r) && (A4 p5 c)) then bif (C4 p3_1 (-40 : Int)) then bif (Cy r c l p5 p5) then bif (Ag (D0 c l p5 p5)) then bif (Ag (Bu p3_1 (-40 : Int)) && Ag (Ir (D0 c l p5 p5))) then bif (D2 (0 : Int) (R4 (Bu p3_1 (-40 : Int)) (Ir (D0 c l p5 p5)))) then some (.bool true) else A2.Flat.L1 N M r c l (Ab (p5 + (1 : Int))) p3_1 else none else none else none else none else some (.bool false) :=
  Eq.trans (by kernel_rfl)
  (Ax (Ld (A4 p5 r)) (Ax (Ld (A4 p5 r)) (Ax (Jg (A4 p5 r)) (Ax (Gd (A4 p5 r)) (Ax (Ia (A4 p5 r)) (Cx (Iw (A4 p5 r) (A4 p5 c)) (Cx (E3 (C4 p3_1 (-40 : Int))) (Cx (E3 (Cy r c l p5 p5)) (Cx (E3 (Ag (D0 c l p5 p5))) (Cx (E3 (Ag (Bu p3_1 (-40 : Int)) && Ag (Ir (D0 c l p5 p5)))) rfl rfl) rfl) rfl) rfl) rfl))))))
theorem A2.Flat.ev (N : Nat) (r c : Int) (l : List Int) : Bx A2.Flat.E N Tryz.f26 (An Tryz.f26) [.agg [.int .i64 r, .int .i64 c, .ints .arg .u64 l]] =
  A2.Flat.L0 N N r c l (0 : Int) (0 : Int) := by kernel_rfl
abbrev _root_.Go.Proofs.S1.A2.Flat.Kn := A3 Tryz.prog 26 A2.Flat.spec
theorem A2.Flat.Ac (hk : Ay Tryz.prog A2.Flat.A7) (h : ∀ (r c : Int) (l : List Int), A2.Flat.pre [.i r, .i c, .l l] = true → Bc A2.Flat.E Tryz.f26 [.agg [.int .i64 r, .int .i64 c, .ints .arg .u64 l]] (A2.Flat.out [.i r, .i c, .l l])) : A2.Flat.Kn :=
  Ak (Az hk _ _ _) Tryz.func26 (by kernel_rfl) (by kernel_rfl) h
end EqLow
open EqLow
section
variable {n Q : Nat} {l m : List Int}
end
open EqRef14 EqLow
theorem Arf {c : Int} {l : List Int} {i k : Int} (h : Dl l = true) : Cv (D0 c l i k) = true := by
  unfold D0
  rw [Atc]
  cases hx : l[(i * c + k).toNat]? with
  | none => exact (by decide : Cv 0 = true)
  | some x =>
    unfold Dl at h
    exact List.all_eq_true.1 h x (List.mem_of_getElem? hx)
theorem Amt {r c : Nat} {f : Nat → Nat → Int} (h : ∀ i k, Cv (f i k) = true) : Dl (Cd r c f) = true := by
  unfold Dl
  rw [List.all_eq_true]
  intro x hx
  obtain ⟨j, _, rfl⟩ := List.mem_map.1 hx
  exact h _ _
theorem Agz {r c : Int} {l : List Int} (al : Al l = true) (h : Ez r c l = 0) : ∃ R C : Nat, r = R ∧ c = C ∧ R ≤ 6 ∧ C ≤ 6 ∧ l.length = R * C ∧
    Du r c l = ((R : Int), ((min R C : Nat) : Int), Cd R (min R C) (fun i k => D0 (R : Int) (Lu R C l) (0 + (i : Int)) (0 + (k : Int))), 0) ∧
    Hv r c l = (((min R C : Nat) : Int), (C : Int), Cd (min R C) C (fun i k => D0 (C : Int) (Jz R C l) (0 + (i : Int)) (0 + (k : Int))), 0) ∧
    Al (Lu R C l) = true ∧ Al (Jz R C l) = true ∧ Dl (Lu R C l) = true ∧ Dl (Jz R C l) = true ∧ (Lu R C l).length = R * R ∧ (Jz R C l).length = R * C := by
  have ht := Uc al h
  obtain ⟨R, C, rfl, rfl, r6, c6, hl, q1, q2, g1, g2, f1, f2⟩ := X9 al h
  have p1 : Hi (R : Int) (R : Int) 0 0 (R : Int) (min (R : Int) (C : Int)) = true := As3 (by omega)
  have p2 : Hi (R : Int) (C : Int) 0 0 (min (R : Int) (C : Int)) (C : Int) = true := As3 (by omega)
  rw [As4, As4, V3 r6 r6 q2 p1, V3 r6 c6 g2 p2] at ht
  have em : min (R : Int) (C : Int) = ((min R C : Nat) : Int) := by omega
  rw [em, As4, As4, As4] at ht
  exact ⟨R, C, rfl, rfl, r6, c6, hl, ht.1.symm, ht.2.symm, q1, g1, f1, f2, q2, g2⟩
theorem B4.Fs.known : B4.Fs.Kn := B4.Fs.Ac (.cons Ah.Part.known (.cons B4.By.known .nil)) fun r c l hp => by
  have h1 : ((A9 r c l && Dl l) && Al l) = true := hp
  obtain ⟨_, al⟩ := Ad.1 h1
  show ∃ N dv drops, _ = some dv ∧ Wk drops dv (DV.agg [.int .i64 (Du r c l).1, .int .i64 (Du r c l).2.1, .ints .arg .u64 (Du r c l).2.2.1, .int .i64 (Hv r c l).1, .int .i64 (Hv r c l).2.1, .ints .arg .u64 (Hv r c l).2.2.1, .bool (decide (Ez r c l = 0))])
  have hrun := B4.Fs.ev 0 r c l
  rw [h1, As2] at hrun
  by_cases h : Ez r c l = 0
  · obtain ⟨e1, e2⟩ := V1 h
    obtain ⟨R, C, rfl, rfl, r6, c6, hl, t1, t2, q1, g1, f1, f2, q2, g2⟩ := Agz al h
    have p1 : Hi (R : Int) (R : Int) 0 0 (R : Int) (min (R : Int) (C : Int)) = true := As3 (by omega)
    have p2 : Hi (R : Int) (C : Int) 0 0 (min (R : Int) (C : Int)) (C : Int) = true := As3 (by omega)
    have em : min (R : Int) (C : Int) = ((min R C : Nat) : Int) := by omega
    rw [As3 h, Bool.not_true, As6, e1, e2, As4, As4, Iq r6 r6 q2, Iq r6 c6 g2, p1, p2, As8, As2, As2, em, As4] at hrun
    rw [t1, t2, h]
    exact ⟨0, _, [], hrun, Wk.G3 (.cons .int (.cons .int (.cons (.fresh _ _) (.cons .int (.cons .int (.cons (.fresh _ _) (.cons .bool .nil)))))))⟩
  · obtain ⟨e1, e2⟩ := W4 (e := Ez r c l) rfl h
    have e3 : Du r c l = Nh (Ez r c l) := by unfold Du; rw [if_pos h]
    have e4 : Hv r c l = Nh (Ez r c l) := by unfold Hv; rw [if_pos h]
    rw [As7 h, Bool.not_false, As2, e1, e2] at hrun
    rw [e3, e4, As7 h]
    exact ⟨0, _, [], hrun, Wk.G3 (.cons .int (.cons .int (.cons .Vw (.cons .int (.cons .int (.cons .Vw (.cons .bool .nil)))))))⟩
section
variable {n Q : Nat} {l m : List Int}
end
theorem Z8 : ∀ (d : List Int) (m : Int), (∀ x ∈ d, ∃ n : Nat, x = ((Gl n : Nat) : Int)) → d.foldl (fun m x => N4 m x) m = d.foldl (fun m x => N4 m (Ir x)) m
  | [], _, _ => rfl
  | x :: d, m, h => by
    obtain ⟨n, rfl⟩ := h x List.mem_cons_self
    have e : Ir ((Gl n : Nat) : Int) = ((Gl n : Nat) : Int) := by
      unfold Ir
      rw [As4]
      congr 1
      unfold Gl
      omega
    rw [List.foldl_cons, List.foldl_cons, e]
    exact Z8 d _ fun y hy => h y (List.mem_cons_of_mem _ hy)
theorem Z9 {c : Int} {l : List Int} {n i : Nat} (h : i < n) : (J8 c l n).drop i = Ir (D0 c l (i : Int) (i : Int)) :: (J8 c l n).drop (i + 1) := by
  have hl : (J8 c l n).length = n := H5 c l n
  rw [List.drop_eq_getElem_cons (by rw [hl]; exact h)]
  congr 1
  simp [J8]
theorem Aa6 (N : Nat) {R C : Nat} {l : List Int} (r6 : R ≤ 6) (c6 : C ≤ 6) (hl : l.length = R * C) (al : Al l = true) : ∀ (cnt i F : Nat) (g : Int), i + cnt = min R C → cnt < F → Ag g = true →
    A2.Flat.L0 N F (R : Int) (C : Int) l g (i : Int) = A2.Flat.L1 N N (R : Int) (C : Int) l 0 (((J8 (C : Int) l (min R C)).drop i).foldl (fun m x => N4 m x) g) := by
  intro cnt
  induction cnt with
  | zero =>
    intro i F g hi hF hg
    obtain ⟨F, rfl⟩ : ∃ G, F = G + 1 := ⟨F - 1, by omega⟩
    have hlt : (A4 (i : Int) (R : Int) && A4 (i : Int) (C : Int)) = false := by
      rw [Ar, Ar, Bool.and_eq_false_iff, Atl, Atl]; omega
    rw [A2.Flat.As, hlt, As6, Atg (by rw [H5]; omega)]
    rfl
  | succ cnt ih =>
    intro i F g hi hF hg
    obtain ⟨F, rfl⟩ : ∃ G, F = G + 1 := ⟨F - 1, by omega⟩
    have hlt : (A4 (i : Int) (R : Int) && A4 (i : Int) (C : Int)) = true := by
      rw [Ar, Ar, As3 (by omega), As3 (by omega)]; rfl
    rw [A2.Flat.As, hlt, As2, Di r6 c6 hl (by omega) (by omega), As2, H6 al, As2, hg, Sb, As8, As2, Am (by omega) (by omega), Z9 (by omega), List.foldl_cons]
    exact ih (i + 1) F _ (by omega) (by omega) (Al1 hg (Sb _))
theorem Aa7 (N : Nat) {R C : Nat} {l : List Int} {g : Int} (r6 : R ≤ 6) (c6 : C ≤ 6) (hl : l.length = R * C) (al : Al l = true) (hg : Ag g = true) : ∀ (cnt i F : Nat), i + cnt = min R C → cnt < F →
    A2.Flat.L1 N F (R : Int) (C : Int) l (i : Int) g = some (.bool (((J8 (C : Int) l (min R C)).drop i).any fun x => !(decide (R4 (Bu g (-40)) x < 0)))) := by
  intro cnt
  induction cnt with
  | zero =>
    intro i F hi hF
    obtain ⟨F, rfl⟩ : ∃ G, F = G + 1 := ⟨F - 1, by omega⟩
    have hlt : (A4 (i : Int) (R : Int) && A4 (i : Int) (C : Int)) = false := by
      rw [Ar, Ar, Bool.and_eq_false_iff, Atl, Atl]; omega
    rw [A2.Flat.B5, hlt, As6, Atg (by rw [H5]; omega)]
    rfl
  | succ cnt ih =>
    intro i F hi hF
    obtain ⟨F, rfl⟩ : ∃ G, F = G + 1 := ⟨F - 1, by omega⟩
    have hlt : (A4 (i : Int) (R : Int) && A4 (i : Int) (C : Int)) = true := by
      rw [Ar, Ar, As3 (by omega), As3 (by omega)]; rfl
    have sp : C4 g (-40 : Int) = true := Ad.2 ⟨hg, Av.2 (by omega)⟩
    rw [A2.Flat.B5, hlt, As2, sp, As2, Di r6 c6 hl (by omega) (by omega), As2, H6 al, As2, G9 hg, Sb, As8, As2, D6, Z9 (by omega), List.any_cons, Am (by omega) (by omega)]
    by_cases h : R4 (Bu g (-40)) (Ir (D0 (C : Int) l (i : Int) (i : Int))) < 0
    · rw [As7 (by omega), As6, As3 h, Bool.not_true, Bool.false_or]
      exact ih (i + 1) F (by omega) (by omega)
    · rw [As3 (by omega), As2, As7 h]; rfl
theorem A2.Flat.known : A2.Flat.Kn := A2.Flat.Ac (.cons Bn.G6.known (.cons Bn.Max.known (.cons Bn.Order.known (.cons Ai.Bp.known (.cons Ah.At.known .nil))))) fun r c l hp => by
  obtain ⟨h1, hf⟩ := Ad.1 (show ((A9 r c l && Al l) && Dl l) = true from hp)
  obtain ⟨hr, al⟩ := Ad.1 h1
  obtain ⟨R, C, rfl, rfl, r6, c6, hl⟩ := C0 hr
  refine ⟨8, .bool (P8 (R : Int) (C : Int) l), [], ?_, .bool⟩
  rw [A2.Flat.ev]
  have h1 := Aa6 8 r6 c6 hl al (min R C) 0 8 0 (by omega) (by omega) Iv
  rw [List.drop_zero, Z8 _ _ (fun x hx => by obtain ⟨j, _, rfl⟩ := List.mem_map.1 hx; exact ⟨_, rfl⟩)] at h1
  have h2 := X2 (J8 (C : Int) l (min R C)) 0 (by decide) (by decide +kernel)
  have h2 : (J8 (C : Int) l (min R C)).foldl (fun m x => N4 m (Ir x)) 0 = Be (J8 (C : Int) l (min R C)) := h2
  rw [h2] at h1
  have h3 := Aa7 8 (g := Be (J8 (C : Int) l (min R C))) r6 c6 hl al (Nl _) (min R C) 0 8 (by omega) (by omega)
  rw [List.drop_zero] at h3
  unfold P8 Amq
  rw [As4, As4]
  exact h1.trans h3
theorem A2.Dq.known : A2.Dq.Kn := A2.Dq.Ac (.cons Ah.Mul.known (.cons Ah.Cl.known (.cons Gp.Check.known (.cons B4.Fs.known (.cons A2.Flat.known (.cons A2.Cj.known .nil)))))) fun r c l p q m hp => by
  obtain ⟨al, am⟩ := Ad.1 (show (Al l && Al m) = true from hp)
  show ∃ N dv drops, _ = some dv ∧ Wk drops dv (DV.tup [.agg [.int .i64 (B6 r c l p q m).1, .int .i64 (B6 r c l p q m).2.1, .ints .arg .u64 (B6 r c l p q m).2.2.1], .int .i64 (B6 r c l p q m).2.2.2])
  have hrun := A2.Dq.ev 0 r c l p q m
  rw [al, As2] at hrun
  unfold B6
  by_cases c1 : C5 r c l = 0
  · obtain ⟨hr, hf⟩ := J1 c1
    rw [Jk c1, As6, am, As2] at hrun
    rw [if_neg (by rw [c1]; decide)]
    by_cases c2 : C5 p q m = 0
    · rw [Jk c2, As6, Ap7] at hrun
      rw [if_neg (by rw [c2]; decide)]
      by_cases c3 : r < c ∨ r ≠ p
      · rw [As3 c3, As2] at hrun
        rw [if_pos c3]
        exact ⟨0, _, [], hrun, Rx⟩
      · rw [As7 c3, As6, hr, hf, As8, Bool.true_and, As2] at hrun
        rw [if_neg c3]
        by_cases c4 : Ez r c l = 0
        · rw [As3 c4, Bool.not_true, As6] at hrun
          rw [if_neg (by rw [c4]; decide)]
          obtain ⟨R, C, rfl, rfl, r6, c6, hl, t1, t2, q1, g1, f1, f2, q2, g2⟩ := Agz al c4
          obtain ⟨hm1, _⟩ := J1 c2
          have hcr : C ≤ R := by omega
          obtain rfl : p = (R : Int) := by omega
          have m6 : min R C ≤ 6 := by omega
          have aq : Al (Cd R (min R C) (fun i k => D0 (R : Int) (Lu R C l) (0 + (i : Int)) (0 + (k : Int)))) = true := Jv fun _ _ => H6 q1
          have ar : Al (Cd (min R C) C (fun i k => D0 (C : Int) (Jz R C l) (0 + (i : Int)) (0 + (k : Int)))) = true := Jv fun _ _ => H6 g1
          have fr : Dl (Cd (min R C) C (fun i k => D0 (C : Int) (Jz R C l) (0 + (i : Int)) (0 + (k : Int)))) = true := Amt fun _ _ => Arf f2
          have rr := O2 (fun i k => D0 (C : Int) (Jz R C l) (0 + (i : Int)) (0 + (k : Int))) m6 c6
          have rq := O2 (fun i k => D0 (R : Int) (Lu R C l) (0 + (i : Int)) (0 + (k : Int))) r6 m6
          rw [t1, t2]
          rw [t1, t2] at hrun
          generalize Cd R (min R C) (fun i k => D0 (R : Int) (Lu R C l) (0 + (i : Int)) (0 + (k : Int))) = gq at *
          generalize Cd (min R C) C (fun i k => D0 (C : Int) (Jz R C l) (0 + (i : Int)) (0 + (k : Int))) = gr at *
          dsimp only at hrun ⊢
          have efl : (P7 ((min R C : Nat) : Int) (C : Int) gr).1 = P8 ((min R C : Nat) : Int) (C : Int) gr := by
            unfold P7
            rw [if_neg (by rw [Anc rr fr]; decide)]
          rw [efl]
          rw [rr, ar, fr, As8, As8, As2] at hrun
          cases c5 : P8 ((min R C : Nat) : Int) (C : Int) gr with
          | true =>
            rw [c5, As2] at hrun
            rw [if_pos rfl]
            exact ⟨0, _, [], hrun, Rx⟩
          | false =>
            rw [if_neg (by decide)]
            have rt := O2 (fun i k => D0 ((min R C : Nat) : Int) gq (k : Int) (i : Int)) m6 r6
            have at' : Al (Cd (min R C) R (fun i k => D0 ((min R C : Nat) : Int) gq (k : Int) (i : Int))) = true := Jv fun _ _ => H6 aq
            rw [c5, As6, rq, As2, As4, As4, rt, hm1, at', As3 rfl, As8, As8, As8, As2, show Al (Cd (min R C) q.toNat fun (i j : Nat) => It (Gn (R : Int) (Cd (min R C) R fun (i k : Nat) => D0 ((min R C : Nat) : Int) gq (k : Int) (i : Int)) (i : Int)) (J7 (R : Int) q m (j : Int))) = true from Jv fun _ _ => T4 _ _, As8, As2] at hrun
            have e1 : Ft (R : Int) ((min R C : Nat) : Int) gq = (((min R C : Nat) : Int), (R : Int), Cd (min R C) R (fun (i k : Nat) => D0 ((min R C : Nat) : Int) gq (k : Int) (i : Int)), 0) := by
              unfold Ft
              rw [if_pos rq, As4, As4]
            have e2 : Dj (R : Int) ((min R C : Nat) : Int) gq (R : Int) q m = (((min R C : Nat) : Int), q, Cd (min R C) q.toNat (fun (i j : Nat) => It (Gn (R : Int) (Cd (min R C) R fun (i k : Nat) => D0 ((min R C : Nat) : Int) gq (k : Int) (i : Int)) (i : Int)) (J7 (R : Int) q m (j : Int))), 0) := by
              unfold Dj
              rw [e1, if_neg (fun h => h rfl)]
              unfold Tm
              dsimp only
              rw [rt, hm1, As8, if_pos rfl, if_pos rfl, As4]
            unfold Akk
            dsimp only
            rw [e2, if_neg (fun h => h rfl)]
            exact ⟨0, _, [], hrun, Aao⟩
        · have e2 : Ez r c l = 2 := by
            rw [Q9 c1] at c4 ⊢
            by_cases hk : Lg r.toNat c.toNat l = true
            · rw [if_pos hk] at c4; exact absurd rfl c4
            · rw [if_neg hk]
          rw [As7 c4, Bool.not_false, As2] at hrun
          rw [if_pos c4, e2]
          exact ⟨0, _, [], hrun, Rx⟩
    · rw [neI c2, As2, As2] at hrun
      rw [if_pos c2]
      exact ⟨0, _, [], hrun, Rx⟩
  · rw [neI c1, As2, As2] at hrun
    rw [if_pos c1]
    exact ⟨0, _, [], hrun, Rx⟩
namespace EqLaw17
theorem E3 : ∀ a : Bool, (((!a) || (a == true)) && true) = true := by decide
theorem Jn : ∀ a b : Bool, ((!(a == true)) || ((((!(a == true)) || (a == true)) && (((!(a == true)) || (a == true)) && true)) && b)) = ((!a) || b) := by decide
theorem Iw : ∀ a : Bool, ((!(a == true)) || true) = true := by decide
theorem Ia : ∀ a b : Bool, (((!(bif a then b else false)) || ((bif a then b else false) == true)) && true) = true := by decide
theorem Gd : ∀ a b : Bool, ((!((bif a then b else false) == true)) || ((((!((bif a then b else false) == true)) || ((bif a then b else false) == true)) && true) && true)) = true := by decide
theorem Jg : ∀ a b c : Bool, ((!((bif a then b else false) == true)) || ((((!((bif a then b else false) == true)) || ((bif a then b else false) == true)) && true) && c)) = ((!(a && b)) || c) := by decide
theorem Ld : ∀ a b : Bool, ((!((bif a then b else false) == true)) || true) = true := by decide
theorem Lx : ∀ a : Bool, ((!(a == true)) || ((((!(a == true)) || (a == true)) && true) && true)) = true := by decide
def B9.same.A7 : List (Nat × Entry) := [(31, Ah.Eb.spec)]
def B9.same.E : Env := Bb (A5 B9.same.A7) (fun _ => false) (fun _ => none) (fun _ => none)
theorem B9.same.ev (N : Nat) (r c : Int) (l : List Int) (e p q : Int) (m : List Int) (f : Int) : Bx B9.same.E N Tryz.f27 (An Tryz.f27) [.agg [.int .i64 r, .int .i64 c, .ints .arg .u64 l], .int .i64 e, .agg [.int .i64 p, .int .i64 q, .ints .arg .u64 m], .int .i64 f] = bif ((!(e == f)) || (Gr l)) then some (.bool (bif (e == f) then (Im r c l p q m) else false)) else none :=
  Eq.trans (by kernel_rfl)
  (Ax (Iw (e == f)) (Ax (Iw (e == f)) (Cx (Jn (e == f) (Gr l)) (Ax (E3 (e == f)) rfl) rfl)))
abbrev _root_.Go.Proofs.S1.B9.same.Kn := A3 Tryz.prog 27 B9.same.spec
theorem B9.same.Ac (hk : Ay Tryz.prog B9.same.A7) (h : ∀ (r c : Int) (l : List Int) (e p q : Int) (m : List Int) (f : Int), B9.same.pre [.i r, .i c, .l l, .i e, .i p, .i q, .l m, .i f] = true → Bc B9.same.E Tryz.f27 [.agg [.int .i64 r, .int .i64 c, .ints .arg .u64 l], .int .i64 e, .agg [.int .i64 p, .int .i64 q, .ints .arg .u64 m], .int .i64 f] (B9.same.out [.i r, .i c, .l l, .i e, .i p, .i q, .l m, .i f])) : B9.same.Kn :=
  Ak (Az hk _ _ _) Tryz.func27 (by kernel_rfl) (by kernel_rfl) h
def B9.Ho.A7 : List (Nat × Entry) := [(30, solve.Dq.spec)]
def B9.Ho.E : Env := Bb (A5 B9.Ho.A7) (fun _ => false) (fun _ => none) (fun _ => none)
theorem B9.Ho.ev (N : Nat) : Bx B9.Ho.E N Tryz.f28 (An Tryz.f28) [] = bif (Al [(4611686018427387904 : Int)] && Al [(4616189618054758400 : Int)]) then bif ((!((((B6 (1 : Int) (1 : Int) [(4611686018427387904 : Int)] (1 : Int) (1 : Int) [(4616189618054758400 : Int)]).2.2.2) == (0 : Int)) && ((List.length ((B6 (1 : Int) (1 : Int) [(4611686018427387904 : Int)] (1 : Int) (1 : Int) [(4616189618054758400 : Int)]).2.2.1) : Int) == (1 : Int)))) || (decide ((0 : Int) < (List.length ((B6 (1 : Int) (1 : Int) [(4611686018427387904 : Int)] (1 : Int) (1 : Int) [(4616189618054758400 : Int)]).2.2.1) : Int)))) then some (.bool (bif (bif (((B6 (1 : Int) (1 : Int) [(4611686018427387904 : Int)] (1 : Int) (1 : Int) [(4616189618054758400 : Int)]).2.2.2) == (0 : Int)) then ((List.length ((B6 (1 : Int) (1 : Int) [(4611686018427387904 : Int)] (1 : Int) (1 : Int) [(4616189618054758400 : Int)]).2.2.1) : Int) == (1 : Int)) else false) then ((List.getD ((B6 (1 : Int) (1 : Int) [(4611686018427387904 : Int)] (1 : Int) (1 : Int) [(4616189618054758400 : Int)]).2.2.1) 0 0) == (4611686018427387904 : Int)) else false)) else none else none :=
  Eq.trans (by kernel_rfl)
  (Ee (Ax (Iw (((B6 (1 : Int) (1 : Int) [(4611686018427387904 : Int)] (1 : Int) (1 : Int) [(4616189618054758400 : Int)]).2.2.2) == (0 : Int))) (Ax (Lx (((B6 (1 : Int) (1 : Int) [(4611686018427387904 : Int)] (1 : Int) (1 : Int) [(4616189618054758400 : Int)]).2.2.2) == (0 : Int))) (Ax (Lx (((B6 (1 : Int) (1 : Int) [(4611686018427387904 : Int)] (1 : Int) (1 : Int) [(4616189618054758400 : Int)]).2.2.2) == (0 : Int))) (Ax (Lx (((B6 (1 : Int) (1 : Int) [(4611686018427387904 : Int)] (1 : Int) (1 : Int) [(4616189618054758400 : Int)]).2.2.2) == (0 : Int))) (Ax (E3 (((B6 (1 : Int) (1 : Int) [(4611686018427387904 : Int)] (1 : Int) (1 : Int) [(4616189618054758400 : Int)]).2.2.2) == (0 : Int))) (Ax (Ld (((B6 (1 : Int) (1 : Int) [(4611686018427387904 : Int)] (1 : Int) (1 : Int) [(4616189618054758400 : Int)]).2.2.2) == (0 : Int)) ((List.length ((B6 (1 : Int) (1 : Int) [(4611686018427387904 : Int)] (1 : Int) (1 : Int) [(4616189618054758400 : Int)]).2.2.1) : Int) == (1 : Int))) (Ax (Gd (((B6 (1 : Int) (1 : Int) [(4611686018427387904 : Int)] (1 : Int) (1 : Int) [(4616189618054758400 : Int)]).2.2.2) == (0 : Int)) ((List.length ((B6 (1 : Int) (1 : Int) [(4611686018427387904 : Int)] (1 : Int) (1 : Int) [(4616189618054758400 : Int)]).2.2.1) : Int) == (1 : Int))) (Cx (Jg (((B6 (1 : Int) (1 : Int) [(4611686018427387904 : Int)] (1 : Int) (1 : Int) [(4616189618054758400 : Int)]).2.2.2) == (0 : Int)) ((List.length ((B6 (1 : Int) (1 : Int) [(4611686018427387904 : Int)] (1 : Int) (1 : Int) [(4616189618054758400 : Int)]).2.2.1) : Int) == (1 : Int)) (decide ((0 : Int) < (List.length ((B6 (1 : Int) (1 : Int) [(4611686018427387904 : Int)] (1 : Int) (1 : Int) [(4616189618054758400 : Int)]).2.2.1) : Int)))) (Ax (Gd (((B6 (1 : Int) (1 : Int) [(4611686018427387904 : Int)] (1 : Int) (1 : Int) [(4616189618054758400 : Int)]).2.2.2) == (0 : Int)) ((List.length ((B6 (1 : Int) (1 : Int) [(4611686018427387904 : Int)] (1 : Int) (1 : Int) [(4616189618054758400 : Int)]).2.2.1) : Int) == (1 : Int))) (Ax (Gd (((B6 (1 : Int) (1 : Int) [(4611686018427387904 : Int)] (1 : Int) (1 : Int) [(4616189618054758400 : Int)]).2.2.2) == (0 : Int)) ((List.length ((B6 (1 : Int) (1 : Int) [(4611686018427387904 : Int)] (1 : Int) (1 : Int) [(4616189618054758400 : Int)]).2.2.1) : Int) == (1 : Int))) (Ax (Ia (((B6 (1 : Int) (1 : Int) [(4611686018427387904 : Int)] (1 : Int) (1 : Int) [(4616189618054758400 : Int)]).2.2.2) == (0 : Int)) ((List.length ((B6 (1 : Int) (1 : Int) [(4611686018427387904 : Int)] (1 : Int) (1 : Int) [(4616189618054758400 : Int)]).2.2.1) : Int) == (1 : Int))) rfl))) rfl)))))))) rfl)
abbrev _root_.Go.Proofs.S1.B9.Ho.Kn := A3 Tryz.prog 28 B9.Ho.spec
theorem B9.Ho.Ac (hk : Ay Tryz.prog B9.Ho.A7) (h : ∀ (_ : Unit), B9.Ho.pre [] = true → Bc B9.Ho.E Tryz.f28 [] (B9.Ho.out [])) : B9.Ho.Kn :=
  Ak (Az hk _ _ _) Tryz.func28 (by kernel_rfl) (by kernel_rfl) (h ())
end EqLaw17
open EqLaw17
theorem B9.same.known : B9.same.Kn := B9.same.Ac (.cons Ah.Eb.known .nil) fun r c l e p q m f hp => by
  have hp : Gr l = true := hp
  refine ⟨0, B9.same.out [.i r, .i c, .l l, .i e, .i p, .i q, .l m, .i f], [], ?_, .bool⟩
  show _ = some (DV.bool (decide (e = f) && Im r c l p q m))
  have he : (e == f) = decide (e = f) := by rw [Ati]; simp
  rw [B9.same.ev, hp, Bool.or_true, As2, he]
  cases decide (e = f) <;> rfl
def An4 : List Int := [4611686018427387904]
def Aqa : List Int := [4616189618054758400]
theorem Ajh : B6 1 1 An4 1 1 Aqa = (1, 1, An4, 0) := by decide +kernel
theorem Apw : Al An4 = true := Av.2 fun x hx => by
  rw [List.mem_singleton.1 hx]; exact B7 (n := 4611686018427387904) (by decide)
theorem Ank : Al Aqa = true := Av.2 fun x hx => by
  rw [List.mem_singleton.1 hx]; exact B7 (n := 4616189618054758400) (by decide)
theorem B9.Ho.known : B9.Ho.Kn := B9.Ho.Ac (.cons solve.Dq.known .nil) fun _ _ => by
  refine ⟨0, B9.Ho.out [], [], ?_, .bool⟩
  have h2 : Al [(4611686018427387904 : Int)] = true := Apw
  have h3 : Al [(4616189618054758400 : Int)] = true := Ank
  have h4 : B6 (1 : Int) (1 : Int) [(4611686018427387904 : Int)] (1 : Int) (1 : Int) [(4616189618054758400 : Int)] = (1, 1, An4, 0) := Ajh
  rw [B9.Ho.ev, h2, h3, h4]
  rfl
theorem Amu {r c : Nat} {l : List Int} (h : l.length ≤ 36) : (Lt r c l).2.2.1.length ≤ 36 := by
  unfold Lt
  split
  · exact h
  · exact Nat.zero_le _
theorem An3 (r c : Int) (l : List Int) (p q : Int) (m : List Int) : Gr (Wh r c l p q m).2.2.1 = true := Av.2 (by
  unfold Wh
  by_cases h : Qf r c l p q m = 0
  · rw [if_neg (by rw [h]; decide)]
    obtain ⟨h1, h2, rfl, rfl⟩ := U3 h
    obtain ⟨R, C, rfl, hC, r6, c6, hl⟩ := C0 h1
    obtain ⟨P, Q, hP, rfl, p6, q6, hl2⟩ := C0 h2
    have := Nat.mul_le_mul r6 q6
    have h3 := Amu (r := R) (c := Q) (l := upG (R : Int) l (Q : Int) m (R : Int).toNat (Q : Int).toNat) (by unfold upG; rw [Ci, As4, As4]; omega)
    omega
  · rw [if_pos h]; exact Nat.zero_le _)
theorem Uh (r c : Int) (l : List Int) : Im r c l r c l = true := by unfold Im; simp
namespace EqLaw17M
theorem E3 : ∀ a : Bool, (a && true) = a := by decide
theorem Jn : ∀ a b : Bool, ((a && b) && true) = (a && b) := by decide
theorem Iw : ∀ a : Bool, (((!a) || (a == true)) && true) = true := by decide
theorem Ia : ∀ a : Bool, ((!(a == true)) || true) = true := by decide
theorem Gd : ∀ a b : Bool, (bif (!a) then true else (!b)) = ((!a) || (!b)) := by decide
theorem Jg : ∀ a : Bool, ((!(!(!a))) || ((!a) == false)) = true := by decide
theorem Ld : ∀ a : Bool, ((!((!a) == false)) || ((((!((!a) == false)) || ((!a) == false)) && true) && true)) = true := by decide
theorem Lx : ∀ a b : Bool, ((!((!a) == false)) || ((((!((!a) == false)) || ((!a) == false)) && (((!((!a) == false)) || ((!a) == false)) && true)) && b)) = ((!a) || b) := by decide
theorem Pm : ∀ a : Bool, ((!((!a) == false)) || true) = true := by decide
def Ah.Mp.own.A7 : List (Nat × Entry) := []
def Ah.Mp.own.E : Env := Bb (A5 Ah.Mp.own.A7) (fun _ => false) (fun _ => none) (fun _ => none)
theorem Ah.Mp.own.ev (N : Nat) (r c : Int) (l : List Int) : Bx Ah.Mp.own.E N Tryz.f29 (An Tryz.f29) [.agg [.int .i64 r, .int .i64 c, .ints .arg .u64 l]] = bif (decide (0 + (List.length l) ≤ Hc)) then some (.agg [.int .i64 r, .int .i64 c, .ints (.own 10 37) .u64 ([] ++ l)]) else none :=
  Eq.trans (by kernel_rfl)
  (Cx (E3 (decide (0 + (List.length l) ≤ Hc))) rfl rfl)
abbrev _root_.Go.Proofs.S1.Ah.Mp.own.Kn := A3 Tryz.prog 29 Ah.Mp.own.spec
theorem Ah.Mp.own.Ac (hk : Ay Tryz.prog Ah.Mp.own.A7) (h : ∀ (r c : Int) (l : List Int), Ah.Mp.own.pre [.i r, .i c, .l l] = true → Bc Ah.Mp.own.E Tryz.f29 [.agg [.int .i64 r, .int .i64 c, .ints .arg .u64 l]] (Ah.Mp.own.out [.i r, .i c, .l l])) : Ah.Mp.own.Kn :=
  Ak (Az hk _ _ _) Tryz.func29 (by kernel_rfl) (by kernel_rfl) h
def B9.Bk.hint : Nat → Option Ba
  | 0 => some { keep := [2, 3, 5, 6, 7, 8, 9], objs := [(7, 2, 107002, .ints 37 .u64 []), (6, 2, 106002, .ints 37 .u64 [])], boxes := [2, 3, 5, 6, 7] }
  | 2 => some { keep := [2, 3, 6, 7, 8, 10], objs := [(7, 2, 107002, .ints 37 .u64 [])], boxes := [2, 3, 6, 7] }
  | _ => none
def B9.Bk.A7 : List (Nat × Entry) := [(28, B9.Ho.spec), (27, B9.same.spec), (29, Ah.Mp.own.spec), (31, Ah.Eb.spec), (32, A2.Dq.spec), (30, solve.Dq.spec)]
def B9.Bk.E : Env := Bb (A5 B9.Bk.A7) (fun n => Nat.beq n 14 || Nat.beq n 16) B9.Bk.hint (fun _ => none)
def B9.Bk.L0 (N M : Nat) (r c : Int) (l : List Int) (p q : Int) (m : List Int) (p9 : Int) (p2 : List Int) : Option DV := B0 B9.Bk.E N Tryz.f4 (An Tryz.f4) [1, 1, 1, 1, 1, 0, 1, 0] [] M ⟨F7 81 [(2, .ptr 2 0 0), (3, .ptr 3 0 0), (5, .ptr 5 0 0), (6, .ptr 6 0 0), (7, .ptr 7 0 0), (8, .int .i64 ((B6 r c l p q m).2.2.2)), (9, .int .i64 p9)], [(2, false, .box [.int .i64 r, .int .i64 c, .ints .arg .u64 l]), (3, false, .box [.int .i64 p, .int .i64 q, .ints .arg .u64 m]), (5, false, .box [.int .i64 r, .int .i64 c, .oref 106002]), (6, false, .box [.int .i64 p, .int .i64 q, .oref 107002]), (7, false, .box [.int .i64 ((B6 r c l p q m).1), .int .i64 ((B6 r c l p q m).2.1), .ints .fresh .u64 ((B6 r c l p q m).2.2.1)]), (107002, false, .ints 37 .u64 m), (106002, false, .ints 37 .u64 p2)]⟩
def B9.Bk.L1 (N M : Nat) (r c : Int) (l : List Int) (p q : Int) (m : List Int) (p10 : Int) (p2_1 : List Int) : Option DV := B0 B9.Bk.E N Tryz.f4 (An Tryz.f4) [1, 1, 1, 1, 1, 1, 0, 1, 0] [] M ⟨F7 81 [(2, .ptr 2 0 0), (3, .ptr 3 0 0), (6, .ptr 6 0 0), (7, .ptr 7 0 0), (8, .int .i64 ((B6 r c l p q m).2.2.2)), (10, .int .i64 p10)], [(2, false, .box [.int .i64 r, .int .i64 c, .ints .arg .u64 l]), (3, false, .box [.int .i64 p, .int .i64 q, .ints .arg .u64 m]), (6, false, .box [.int .i64 p, .int .i64 q, .oref 107002]), (7, false, .box [.int .i64 ((B6 r c l p q m).1), .int .i64 ((B6 r c l p q m).2.1), .ints .fresh .u64 ((B6 r c l p q m).2.2.1)]), (107002, false, .ints 37 .u64 p2_1)]⟩
theorem B9.Bk.As (N M : Nat) (r c : Int) (l : List Int) (p q : Int) (m : List Int) (p9 : Int) (p2 : List Int) : B9.Bk.L0 N (M + 1) r c l p q m p9 p2 = bif (A4 p9 (List.length p2 : Int)) then bif ((decide (0 ≤ p9)) && (decide (p9 < (List.length p2 : Int)))) then bif (decide ((Int.toNat p9) < (List.length p2))) then bif ((decide (0 ≤ p9)) && (decide (p9 < (List.length p2 : Int)))) then bif (decide ((Int.toNat p9) < (List.length p2))) then B9.Bk.L0 N M r c l p q m (Ab (p9 + (1 : Int))) (List.set p2 (Int.toNat p9) (Ap4 (List.getD p2 (Int.toNat p9) 0))) else none else none else none else none else B9.Bk.L1 N N r c l p q m (0 : Int) m :=
  Eq.trans (by kernel_rfl)
  (Ee (Cx (Jn (decide (0 ≤ p9)) (decide (p9 < (List.length p2 : Int)))) (Cx (E3 (decide ((Int.toNat p9) < (List.length p2)))) (Cx (Jn (decide (0 ≤ p9)) (decide (p9 < (List.length p2 : Int)))) (Cx (E3 (decide ((Int.toNat p9) < (List.length p2)))) rfl rfl) rfl) rfl) rfl) rfl)
theorem B9.Bk.B5 (N M : Nat) (r c : Int) (l : List Int) (p q : Int) (m : List Int) (p10 : Int) (p2_1 : List Int) : B9.Bk.L1 N (M + 1) r c l p q m p10 p2_1 = bif (A4 p10 (List.length p2_1 : Int)) then bif ((decide (0 ≤ p10)) && (decide (p10 < (List.length p2_1 : Int)))) then bif (decide ((Int.toNat p10) < (List.length p2_1))) then bif ((decide (0 ≤ p10)) && (decide (p10 < (List.length p2_1 : Int)))) then bif (decide ((Int.toNat p10) < (List.length p2_1))) then B9.Bk.L1 N M r c l p q m (Ab (p10 + (1 : Int))) (List.set p2_1 (Int.toNat p10) (Ap4 (List.getD p2_1 (Int.toNat p10) 0))) else none else none else none else none else bif (Al l && Al m) then bif (Gr ((B6 r c l p q m).2.2.1)) then some (.bool (bif (decide (((B6 r c l p q m).2.2.2) = ((B6 r c l p q m).2.2.2)) && Im ((B6 r c l p q m).1) ((B6 r c l p q m).2.1) ((B6 r c l p q m).2.2.1) ((B6 r c l p q m).1) ((B6 r c l p q m).2.1) ((B6 r c l p q m).2.2.1)) then true else false)) else none else none :=
  Eq.trans (by kernel_rfl)
  (Ee (Cx (Jn (decide (0 ≤ p10)) (decide (p10 < (List.length p2_1 : Int)))) (Cx (E3 (decide ((Int.toNat p10) < (List.length p2_1)))) (Cx (Jn (decide (0 ≤ p10)) (decide (p10 < (List.length p2_1 : Int)))) (Cx (E3 (decide ((Int.toNat p10) < (List.length p2_1)))) rfl rfl) rfl) rfl) rfl) (Ee (Ee (Ax (Ia (decide (((B6 r c l p q m).2.2.2) = ((B6 r c l p q m).2.2.2)) && Im ((B6 r c l p q m).1) ((B6 r c l p q m).2.1) ((B6 r c l p q m).2.2.1) ((B6 r c l p q m).1) ((B6 r c l p q m).2.1) ((B6 r c l p q m).2.2.1))) (Ax (Iw (decide (((B6 r c l p q m).2.2.2) = ((B6 r c l p q m).2.2.2)) && Im ((B6 r c l p q m).1) ((B6 r c l p q m).2.1) ((B6 r c l p q m).2.2.1) ((B6 r c l p q m).1) ((B6 r c l p q m).2.1) ((B6 r c l p q m).2.2.1))) rfl)) rfl) rfl))
theorem B9.Bk.ev (N : Nat) (r c : Int) (l : List Int) (p q : Int) (m : List Int) : Bx B9.Bk.E N Tryz.f4 (An Tryz.f4) [.agg [.int .i64 r, .int .i64 c, .ints .arg .u64 l], .agg [.int .i64 p, .int .i64 q, .ints .arg .u64 m]] = bif (Gr l) then bif (Gr m) then bif (Al l && Al m) then bif (Gr l) then bif ((!(Im r c l r c l)) || (Gr m)) then bif ((!(Im r c l r c l)) || (!(Im p q m p q m))) then some (.bool false) else B9.Bk.L0 N N r c l p q m (0 : Int) l else none else none else none else none else none :=
  Eq.trans (by kernel_rfl)
  (Ee (Ee (Ee (Ee (Ax (Pm (Im r c l r c l)) (Ax (Pm (Im r c l r c l)) (Cx (Lx (Im r c l r c l) (Gr m)) (Ax (Ld (Im r c l r c l)) (Ax (Jg (Im r c l r c l)) (Cx (Gd (Im r c l r c l) (Im p q m p q m)) rfl rfl))) rfl))) rfl) rfl) rfl) rfl)
abbrev _root_.Go.Proofs.S1.B9.Bk.Kn := A3 Tryz.prog 4 B9.Bk.spec
theorem B9.Bk.Ac (hk : Ay Tryz.prog B9.Bk.A7) (h : ∀ (r c : Int) (l : List Int) (p q : Int) (m : List Int), B9.Bk.pre [.i r, .i c, .l l, .i p, .i q, .l m] = true → Bc B9.Bk.E Tryz.f4 [.agg [.int .i64 r, .int .i64 c, .ints .arg .u64 l], .agg [.int .i64 p, .int .i64 q, .ints .arg .u64 m]] (B9.Bk.out [.i r, .i c, .l l, .i p, .i q, .l m])) : B9.Bk.Kn :=
  Ak (Az hk _ _ _) Tryz.func4 (by kernel_rfl) (by kernel_rfl) h
end EqLaw17M
open EqLaw17M
theorem Ah.Mp.own.known : Ah.Mp.own.Kn := Ah.Mp.own.Ac .nil fun r c l hp => by
  have hp := Av.1 (show Gr l = true from hp)
  refine ⟨0, .agg [.int .i64 r, .int .i64 c, .ints (.own 10 tB) .u64 l], [], ?_, Wk.G3 (.cons .int (.cons .int (.cons (.keep _ _ _ _ List.not_mem_nil) .nil)))⟩
  rw [Ah.Mp.own.ev, As3 (by unfold Hc; omega), As2, List.nil_append]
theorem Akj (a b : MX) (p q : Int) (m : List Int) : Gr (Akk a b p q m).2.2.1 = true := by
  unfold Akk
  split
  · exact Av.2 (Nat.zero_le _)
  · exact An3 _ _ _ _ _ _
theorem Af2 (r c : Int) (l : List Int) (p q : Int) (m : List Int) : Gr (B6 r c l p q m).2.2.1 = true := by
  have hn : ∀ e : Int, Gr (Nh e).2.2.1 = true := fun e => Av.2 (Nat.zero_le _)
  unfold B6
  split
  · exact hn _
  split
  · exact hn _
  split
  · exact hn _
  split
  · exact hn _
  split
  · exact hn _
  · exact Akj _ _ _ _ _
theorem Adz (N : Nat) {r c p q : Int} {l m : List Int} : ∀ (k i F : Nat) (x : List Int), i + k = x.length → k < F → x.length < 2 ^ 62 →
    B9.Bk.L1 N F r c l p q m (i : Int) x = B9.Bk.L1 N 1 r c l p q m 0 [] := by
  intro k
  induction k with
  | zero =>
    intro i F x hi hF hx
    obtain ⟨F, rfl⟩ : ∃ G, F = G + 1 := ⟨F - 1, by omega⟩
    rw [B9.Bk.B5, Ar, As7 (by omega), As6, B9.Bk.B5]
    rfl
  | succ k ih =>
    intro i F x hi hF hx
    obtain ⟨F, rfl⟩ : ∃ G, F = G + 1 := ⟨F - 1, by omega⟩
    rw [B9.Bk.B5, Ar, As3 (show (i : Int) < (x.length : Int) by omega), As2, As3 (show (0 : Int) ≤ (i : Int) by omega), As8, As2, As4, As3 (show i < x.length by omega), As2, As2, As2, Am (by omega) (by omega)]
    exact ih (i + 1) F _ (by rw [List.length_set]; omega) (by omega) (by rw [List.length_set]; exact hx)
theorem Ad0 (N : Nat) {r c p q : Int} {l m : List Int} : ∀ (k i F : Nat) (x : List Int), i + k = x.length → k < F → x.length < 2 ^ 62 →
    B9.Bk.L0 N F r c l p q m (i : Int) x = B9.Bk.L1 N N r c l p q m 0 m := by
  intro k
  induction k with
  | zero =>
    intro i F x hi hF hx
    obtain ⟨F, rfl⟩ : ∃ G, F = G + 1 := ⟨F - 1, by omega⟩
    rw [B9.Bk.As, Ar, As7 (by omega), As6]
  | succ k ih =>
    intro i F x hi hF hx
    obtain ⟨F, rfl⟩ : ∃ G, F = G + 1 := ⟨F - 1, by omega⟩
    rw [B9.Bk.As, Ar, As3 (show (i : Int) < (x.length : Int) by omega), As2, As3 (show (0 : Int) ≤ (i : Int) by omega), As8, As2, As4, As3 (show i < x.length by omega), As2, As2, As2, Am (by omega) (by omega)]
    exact ih (i + 1) F _ (by rw [List.length_set]; omega) (by omega) (by rw [List.length_set]; exact hx)
theorem B9.Bk.known : B9.Bk.Kn := B9.Bk.Ac (.cons B9.Ho.known (.cons B9.same.known (.cons Ah.Mp.own.known (.cons Ah.Eb.known (.cons A2.Dq.known (.cons solve.Dq.known .nil)))))) fun r c l p q m hp => by
  obtain ⟨h1, h2⟩ := Ad.1 (show ((Al l && Al m) && (Gr l && Gr m)) = true from hp)
  obtain ⟨ol, om⟩ := Ad.1 h2
  have hl := Av.1 ol
  have hm := Av.1 om
  refine ⟨l.length + m.length + 1, B9.Bk.out [.i r, .i c, .l l, .i p, .i q, .l m], [], ?_, .bool⟩
  show _ = some (DV.bool true)
  rw [B9.Bk.ev, ol, As2, om, As2, h1, As2, As2, Bool.or_true, As2, Uh, Uh, Bool.not_true, Bool.or_self, As6]
  have k0 := Ad0 (r := r) (c := c) (p := p) (q := q) (l := l) (m := m) (l.length + m.length + 1) l.length 0 (l.length + m.length + 1) l (by omega) (by omega) (by omega)
  have k1 := Adz (r := r) (c := c) (p := p) (q := q) (l := l) (m := m) (l.length + m.length + 1) m.length 0 (l.length + m.length + 1) m (by omega) (by omega) (by omega)
  refine (k0.trans k1).trans ?_
  rw [show (1 : Nat) = 0 + 1 from rfl, B9.Bk.B5, Ar, As7 (by simp), As6, h1, As2, Af2, As2, Uh, As3 rfl]
  rfl
end Go.Proofs.S1
end
