/- LawP of the verified evaluator and its use for this seat (of my texts S1EqLaw10P, S1PLaw10P). -/
import Derived.Test.YtakfdnpjnbopbaaSpe
import Derived.Test.YtakfdnpjnbopbaaLawT

/- The evaluator's equations: dioptralaw10.spoil, dioptraref10.Copy.own, dioptralaw10.MatrixParts. Printed by denpy.py. -/
namespace Go.Proofs.S1
open Go Go.Den Go.Rnd Go.Proofs
set_option linter.unusedVariables false
set_option maxRecDepth 100000
namespace EqLaw10P
theorem tt0 (a : Bool) : (a && true) = a := by cases a <;> rfl
theorem tt1 (a b : Bool) : ((a && b) && true) = (a && b) := by cases a <;> cases b <;> rfl
theorem tt2 (a b : Bool) : (((!(bif a then b else false)) || ((bif a then b else false) == true)) && true) = true := by cases a <;> cases b <;> rfl
theorem tt3 (a b : Bool) : ((!((bif a then b else false) == true)) || true) = true := by cases a <;> cases b <;> rfl
theorem tt4 (a : Bool) : (((!a) || (a == true)) && true) = true := by cases a <;> rfl
theorem tt5 (a b : Bool) : ((!(a == true)) || ((((!(a == true)) || (a == true)) && (((!(a == true)) || (a == true)) && (((!(a == true)) || (a == true)) && true))) && b)) = ((!a) || b) := by cases a <;> cases b <;> rfl
theorem tt6 (a : Bool) : ((!(a == true)) || true) = true := by cases a <;> rfl
theorem tt7 (a : Bool) : ((((!a) || (a == true)) && true) && true) = true := by cases a <;> rfl
theorem tt8 (a : Bool) : (((!(a == true)) || true) && true) = true := by cases a <;> rfl
def law10.spoil.hint : Nat → Option LoopHint
  | 0 => some { keep := [1, 2], objs := [(2, 2, 102002, .ints 39 .u64 [])], boxes := [1] }
  | _ => none
noncomputable def law10.spoil.tab : List (Nat × Entry) := []
noncomputable def law10.spoil.E : Env := envOf (tabOf law10.spoil.tab) (fun _ => false) law10.spoil.hint (fun _ => none)
noncomputable def law10.spoil.L0 (N M : Nat) (r : Int) (c : Int) (p2 : Int) (p2_1 : List Int) : Option Unit := loopAtU law10.spoil.E N Try.f26 (bodyOf Try.f26) [1, 1, 0] [] M ⟨mkT 20 [(1, .ptr 1 0 0), (2, .int .i64 p2)], [(1, false, .box [.int .i64 r, .int .i64 c, .oref 102002]), (102002, false, .ints 39 .u64 p2_1)]⟩
theorem law10.spoil.L0_step (N M : Nat) (r : Int) (c : Int) (p2 : Int) (p2_1 : List Int) : law10.spoil.L0 N (M + 1) r c p2 p2_1 =
  bif (ltI p2 (List.length p2_1 : Int)) then
    bif ((decide (0 ≤ p2)) && (decide (p2 < (List.length p2_1 : Int)))) then
      bif (decide ((Int.toNat p2) < (List.length p2_1))) then
        bif ((decide (0 ≤ p2)) && (decide (p2 < (List.length p2_1 : Int)))) then
          bif (decide ((Int.toNat p2) < (List.length p2_1))) then
            law10.spoil.L0 N M r c (w_i64 (p2 + (1 : Int))) (List.set p2_1 (Int.toNat p2) (not64 (List.getD p2_1 (Int.toNat p2) 0)))
          else none
        else none
      else none
    else none
  else some () :=
  Eq.trans (b := bif (ltI p2 (List.length p2_1 : Int)) then
    bif (((decide (0 ≤ p2)) && (decide (p2 < (List.length p2_1 : Int)))) && true) then
      bif ((decide ((Int.toNat p2) < (List.length p2_1))) && true) then
        bif (((decide (0 ≤ p2)) && (decide (p2 < (List.length p2_1 : Int)))) && true) then
          bif ((decide ((Int.toNat p2) < (List.length p2_1))) && true) then
            law10.spoil.L0 N M r c (w_i64 (p2 + (1 : Int))) (List.set p2_1 (Int.toNat p2) (not64 (List.getD p2_1 (Int.toNat p2) 0)))
          else none
        else none
      else none
    else none
  else some ()) (by kernel_rfl)
  (ifE (ifS (tt1 _ _) (ifS (tt0 _) (ifS (tt1 _ _) (ifS (tt0 _) rfl rfl) rfl) rfl) rfl) rfl)
theorem law10.spoil.ev (N : Nat) (r : Int) (c : Int) (l : List Int) : spoilD law10.spoil.E N Try.f26 (bodyOf Try.f26) r c 39 l =
  law10.spoil.L0 N N r c (0 : Int) l := by kernel_rfl
theorem law10.spoil.spoil_of {fuel : List Int → Nat} (h : ∀ (r c : Int) (l : List Int), l.length ≤ maxLen → spoilD law10.spoil.E (fuel l) Try.f26 (bodyOf Try.f26) r c 39 l = some ()) : SpoilFact Try.prog 26 39 :=
  Den.spoil_of (E := law10.spoil.E) (env_ok .nil _ _ _) Try.func26 (show Try.f26.body = some (bodyOf Try.f26) by kernel_rfl) (by kernel_rfl) (call_enter Try.func26 (by kernel_rfl) (show Try.f26.body = some (bodyOf Try.f26) by kernel_rfl)) h

noncomputable def ref10.Copy.own.tab : List (Nat × Entry) := []
noncomputable def ref10.Copy.own.E : Env := envOf (tabOf ref10.Copy.own.tab) (fun _ => false) (fun _ => none) (fun _ => none)
theorem ref10.Copy.own.ev (N : Nat) (r : Int) (c : Int) (l : List Int) : funD ref10.Copy.own.E N Try.f24 (bodyOf Try.f24) [.agg [.int .i64 r, .int .i64 c, .ints .arg .u64 l]] =
  bif (decide (0 + (List.length l) ≤ lim)) then
    some (.agg [.int .i64 r, .int .i64 c, .ints (.own 10 39) .u64 ([] ++ l)])
  else none :=
  Eq.trans (b := bif ((decide (0 + (List.length l) ≤ lim)) && true) then
    some (.agg [.int .i64 r, .int .i64 c, .ints (.own 10 39) .u64 ([] ++ l)])
  else none) (by kernel_rfl)
  (ifS (tt0 _) rfl rfl)
theorem ref10.Copy.own.known_of (hk : Knowns Try.prog ref10.Copy.own.tab) (h : ∀ (r : Int) (c : Int) (l : List Int), ref10.Copy.own.pre [.i r, .i c, .l l] = true → ∃ N dv drops, funD ref10.Copy.own.E N Try.f24 (bodyOf Try.f24) [.agg [.int .i64 r, .int .i64 c, .ints .arg .u64 l]] = some dv ∧ Wk drops dv (ref10.Copy.own.out [.i r, .i c, .l l])) : Known Try.prog 24 ref10.Copy.own.spec := by
  refine ⟨meets_entry (E := ref10.Copy.own.E) (env_ok hk _ _ _) Try.func24 (show Try.f24.body = some (bodyOf Try.f24) by kernel_rfl) fun ats dvs he hp => ?_, call_enter Try.func24 (by kernel_rfl) (show Try.f24.body = some (bodyOf Try.f24) by kernel_rfl)⟩
  obtain ⟨_, _, _, _, rfl, rfl, hs0, he0⟩ := he.st_inv
  obtain ⟨r, _, _, rfl, rfl, he1⟩ := hs0.i_inv
  obtain ⟨c, _, _, rfl, rfl, he2⟩ := he1.i_inv
  obtain ⟨l, _, _, rfl, rfl, he3⟩ := he2.s_inv
  obtain ⟨rfl, rfl⟩ := he3.nil_inv
  obtain ⟨rfl, rfl⟩ := he0.nil_inv
  exact h r c l hp

noncomputable def law10.MatrixParts.tab : List (Nat × Entry) := [(14, law10.awake.spec), (12, law10.told.spec), (25, matrix.Part.spec), (17, matrix.Turn.spec), (24, ref10.Copy.own.spec), (28, ref10.In.spec), (29, ref10.Part.spec), (21, ref10.Right.spec), (27, ref10.Turn.spec)]
noncomputable def law10.MatrixParts.E : Env := envOfS (tabOf law10.MatrixParts.tab) (fun n => Nat.beq n 11) (fun _ => none) (fun _ => none) (spoilOf 26 39)
theorem law10.MatrixParts.ev (N : Nat) (r : Int) (c : Int) (l : List Int) (x : Int) (y : Int) (a : Int) (b : Int) : funD law10.MatrixParts.E N Try.f6 (bodyOf Try.f6) [.agg [.int .i64 r, .int .i64 c, .ints .arg .u64 l], .agg [.int .i64 x, .int .i64 y, .int .i64 a, .int .i64 b]] =
  bif (okLen l) then
    bif (!(rightB r c l)) then
      bif (okLen ((partX r c l x y a b).2.2.1)) then
        bif ((!(toldB ((partX r c l x y a b).1) ((partX r c l x y a b).2.1) ((partX r c l x y a b).2.2.1) ((partX r c l x y a b).2.2.2) (0 : Int) (0 : Int) [] (1 : Int))) || (okLen ((turnX r c l).2.2.1))) then
          some (.bool (bif (bif (toldB ((partX r c l x y a b).1) ((partX r c l x y a b).2.1) ((partX r c l x y a b).2.2.1) ((partX r c l x y a b).2.2.2) (0 : Int) (0 : Int) [] (1 : Int)) then (toldB ((turnX r c l).1) ((turnX r c l).2.1) ((turnX r c l).2.2.1) ((turnX r c l).2.2.2) (0 : Int) (0 : Int) [] (1 : Int)) else false) then true else false))
        else none
      else none
    else bif (rightB r c l) then
      bif (okLen ((turnX r c l).2.2.1)) then
        bif (!(toldB ((turnX r c l).1) ((turnX r c l).2.1) ((turnX r c l).2.2.1) ((turnX r c l).2.2.2) c r (grid (Int.toNat c) (Int.toNat r) (fun j1 j2 => atI c l j2 j1)) (0 : Int))) then
          some (.bool false)
        else bif (rightB r c l) then
          bif (!(partB r c x y a b)) then
            bif (okLen ((partX r c l x y a b).2.2.1)) then
              some (.bool (bif (toldB ((partX r c l x y a b).1) ((partX r c l x y a b).2.1) ((partX r c l x y a b).2.2.1) ((partX r c l x y a b).2.2.2) (0 : Int) (0 : Int) [] (3 : Int)) then true else false))
            else none
          else bif (rightB r c l && partB r c x y a b) then
            bif (okLen ((partX r c l x y a b).2.2.1)) then
              some (.bool (bif (toldB ((partX r c l x y a b).1) ((partX r c l x y a b).2.1) ((partX r c l x y a b).2.2.1) ((partX r c l x y a b).2.2.2) a b (grid (Int.toNat a) (Int.toNat b) (fun j1 j2 => atI c l (x + j1) (y + j2))) (0 : Int)) then true else false))
            else none
          else none
        else none
      else none
    else none
  else none :=
  Eq.trans (b := bif (okLen l) then
    bif (!(rightB r c l)) then
      bif (okLen ((partX r c l x y a b).2.2.1)) then
        bif ((!((toldB ((partX r c l x y a b).1) ((partX r c l x y a b).2.1) ((partX r c l x y a b).2.2.1) ((partX r c l x y a b).2.2.2) (0 : Int) (0 : Int) [] (1 : Int)) == true)) || true) then
          bif ((!((toldB ((partX r c l x y a b).1) ((partX r c l x y a b).2.1) ((partX r c l x y a b).2.2.1) ((partX r c l x y a b).2.2.2) (0 : Int) (0 : Int) [] (1 : Int)) == true)) || true) then
            bif ((!((toldB ((partX r c l x y a b).1) ((partX r c l x y a b).2.1) ((partX r c l x y a b).2.2.1) ((partX r c l x y a b).2.2.2) (0 : Int) (0 : Int) [] (1 : Int)) == true)) || true) then
              bif ((!((toldB ((partX r c l x y a b).1) ((partX r c l x y a b).2.1) ((partX r c l x y a b).2.2.1) ((partX r c l x y a b).2.2.2) (0 : Int) (0 : Int) [] (1 : Int)) == true)) || ((((!((toldB ((partX r c l x y a b).1) ((partX r c l x y a b).2.1) ((partX r c l x y a b).2.2.1) ((partX r c l x y a b).2.2.2) (0 : Int) (0 : Int) [] (1 : Int)) == true)) || ((toldB ((partX r c l x y a b).1) ((partX r c l x y a b).2.1) ((partX r c l x y a b).2.2.1) ((partX r c l x y a b).2.2.2) (0 : Int) (0 : Int) [] (1 : Int)) == true)) && (((!((toldB ((partX r c l x y a b).1) ((partX r c l x y a b).2.1) ((partX r c l x y a b).2.2.1) ((partX r c l x y a b).2.2.2) (0 : Int) (0 : Int) [] (1 : Int)) == true)) || ((toldB ((partX r c l x y a b).1) ((partX r c l x y a b).2.1) ((partX r c l x y a b).2.2.1) ((partX r c l x y a b).2.2.2) (0 : Int) (0 : Int) [] (1 : Int)) == true)) && (((!((toldB ((partX r c l x y a b).1) ((partX r c l x y a b).2.1) ((partX r c l x y a b).2.2.1) ((partX r c l x y a b).2.2.2) (0 : Int) (0 : Int) [] (1 : Int)) == true)) || ((toldB ((partX r c l x y a b).1) ((partX r c l x y a b).2.1) ((partX r c l x y a b).2.2.1) ((partX r c l x y a b).2.2.2) (0 : Int) (0 : Int) [] (1 : Int)) == true)) && true))) && (okLen ((turnX r c l).2.2.1)))) then
                bif (((!(toldB ((partX r c l x y a b).1) ((partX r c l x y a b).2.1) ((partX r c l x y a b).2.2.1) ((partX r c l x y a b).2.2.2) (0 : Int) (0 : Int) [] (1 : Int))) || ((toldB ((partX r c l x y a b).1) ((partX r c l x y a b).2.1) ((partX r c l x y a b).2.2.1) ((partX r c l x y a b).2.2.2) (0 : Int) (0 : Int) [] (1 : Int)) == true)) && true) then
                  bif ((!((bif (toldB ((partX r c l x y a b).1) ((partX r c l x y a b).2.1) ((partX r c l x y a b).2.2.1) ((partX r c l x y a b).2.2.2) (0 : Int) (0 : Int) [] (1 : Int)) then (toldB ((turnX r c l).1) ((turnX r c l).2.1) ((turnX r c l).2.2.1) ((turnX r c l).2.2.2) (0 : Int) (0 : Int) [] (1 : Int)) else false) == true)) || true) then
                    bif (((!(bif (toldB ((partX r c l x y a b).1) ((partX r c l x y a b).2.1) ((partX r c l x y a b).2.2.1) ((partX r c l x y a b).2.2.2) (0 : Int) (0 : Int) [] (1 : Int)) then (toldB ((turnX r c l).1) ((turnX r c l).2.1) ((turnX r c l).2.2.1) ((turnX r c l).2.2.2) (0 : Int) (0 : Int) [] (1 : Int)) else false)) || ((bif (toldB ((partX r c l x y a b).1) ((partX r c l x y a b).2.1) ((partX r c l x y a b).2.2.1) ((partX r c l x y a b).2.2.2) (0 : Int) (0 : Int) [] (1 : Int)) then (toldB ((turnX r c l).1) ((turnX r c l).2.1) ((turnX r c l).2.2.1) ((turnX r c l).2.2.2) (0 : Int) (0 : Int) [] (1 : Int)) else false) == true)) && true) then
                      some (.bool (bif (bif (toldB ((partX r c l x y a b).1) ((partX r c l x y a b).2.1) ((partX r c l x y a b).2.2.1) ((partX r c l x y a b).2.2.2) (0 : Int) (0 : Int) [] (1 : Int)) then (toldB ((turnX r c l).1) ((turnX r c l).2.1) ((turnX r c l).2.2.1) ((turnX r c l).2.2.2) (0 : Int) (0 : Int) [] (1 : Int)) else false) then true else false))
                    else none
                  else none
                else none
              else none
            else none
          else none
        else none
      else none
    else bif ((rightB r c l) && true) then
      bif ((okLen ((turnX r c l).2.2.1)) && true) then
        bif (!(toldB ((turnX r c l).1) ((turnX r c l).2.1) ((turnX r c l).2.2.1) ((turnX r c l).2.2.2) c r (grid (Int.toNat c) (Int.toNat r) (fun j1 j2 => atI c l j2 j1)) (0 : Int))) then
          some (.bool false)
        else bif (rightB r c l) then
          bif (!(partB r c x y a b)) then
            bif (okLen ((partX r c l x y a b).2.2.1)) then
              bif ((!((toldB ((partX r c l x y a b).1) ((partX r c l x y a b).2.1) ((partX r c l x y a b).2.2.1) ((partX r c l x y a b).2.2.2) (0 : Int) (0 : Int) [] (3 : Int)) == true)) || true) then
                bif (((!(toldB ((partX r c l x y a b).1) ((partX r c l x y a b).2.1) ((partX r c l x y a b).2.2.1) ((partX r c l x y a b).2.2.2) (0 : Int) (0 : Int) [] (3 : Int))) || ((toldB ((partX r c l x y a b).1) ((partX r c l x y a b).2.1) ((partX r c l x y a b).2.2.1) ((partX r c l x y a b).2.2.2) (0 : Int) (0 : Int) [] (3 : Int)) == true)) && true) then
                  some (.bool (bif (toldB ((partX r c l x y a b).1) ((partX r c l x y a b).2.1) ((partX r c l x y a b).2.2.1) ((partX r c l x y a b).2.2.2) (0 : Int) (0 : Int) [] (3 : Int)) then true else false))
                else none
              else none
            else none
          else bif ((rightB r c l && partB r c x y a b) && true) then
            bif ((okLen ((partX r c l x y a b).2.2.1)) && true) then
              bif (((!((toldB ((partX r c l x y a b).1) ((partX r c l x y a b).2.1) ((partX r c l x y a b).2.2.1) ((partX r c l x y a b).2.2.2) a b (grid (Int.toNat a) (Int.toNat b) (fun j1 j2 => atI c l (x + j1) (y + j2))) (0 : Int)) == true)) || true) && true) then
                bif ((((!(toldB ((partX r c l x y a b).1) ((partX r c l x y a b).2.1) ((partX r c l x y a b).2.2.1) ((partX r c l x y a b).2.2.2) a b (grid (Int.toNat a) (Int.toNat b) (fun j1 j2 => atI c l (x + j1) (y + j2))) (0 : Int))) || ((toldB ((partX r c l x y a b).1) ((partX r c l x y a b).2.1) ((partX r c l x y a b).2.2.1) ((partX r c l x y a b).2.2.2) a b (grid (Int.toNat a) (Int.toNat b) (fun j1 j2 => atI c l (x + j1) (y + j2))) (0 : Int)) == true)) && true) && true) then
                  some (.bool (bif (toldB ((partX r c l x y a b).1) ((partX r c l x y a b).2.1) ((partX r c l x y a b).2.2.1) ((partX r c l x y a b).2.2.2) a b (grid (Int.toNat a) (Int.toNat b) (fun j1 j2 => atI c l (x + j1) (y + j2))) (0 : Int)) then true else false))
                else none
              else none
            else none
          else none
        else none
      else none
    else none
  else none) (by kernel_rfl)
  (ifE (ifE (ifE (ifT (tt6 _) (ifT (tt6 _) (ifT (tt6 _) (ifS (tt5 _ _) (ifT (tt4 _) (ifT (tt3 _ _) (ifT (tt2 _ _) rfl))) rfl)))) rfl) (ifS (tt0 _) (ifS (tt0 _) (ifE rfl (ifE (ifE (ifE (ifT (tt6 _) (ifT (tt4 _) rfl)) rfl) (ifS (tt0 _) (ifS (tt0 _) (ifT (tt8 _) (ifT (tt7 _) rfl)) rfl) rfl)) rfl)) rfl) rfl)) rfl)
theorem law10.MatrixParts.known_of (hk : Knowns Try.prog law10.MatrixParts.tab) (hsp : SpoilFact Try.prog 26 39) (h : ∀ (r : Int) (c : Int) (l : List Int) (x : Int) (y : Int) (a : Int) (b : Int), law10.MatrixParts.pre [.i r, .i c, .l l, .i x, .i y, .i a, .i b] = true → ∃ N dv drops, funD law10.MatrixParts.E N Try.f6 (bodyOf Try.f6) [.agg [.int .i64 r, .int .i64 c, .ints .arg .u64 l], .agg [.int .i64 x, .int .i64 y, .int .i64 a, .int .i64 b]] = some dv ∧ Wk drops dv (law10.MatrixParts.out [.i r, .i c, .l l, .i x, .i y, .i a, .i b])) : Known Try.prog 6 law10.MatrixParts.spec := by
  refine ⟨meets_entry (E := law10.MatrixParts.E) (env_okS hk (spoilOf_ok hsp) _ _ _) Try.func6 (show Try.f6.body = some (bodyOf Try.f6) by kernel_rfl) fun ats dvs he hp => ?_, call_enter Try.func6 (by kernel_rfl) (show Try.f6.body = some (bodyOf Try.f6) by kernel_rfl)⟩
  obtain ⟨_, _, _, _, rfl, rfl, hs0, he0⟩ := he.st_inv
  obtain ⟨r, _, _, rfl, rfl, he1⟩ := hs0.i_inv
  obtain ⟨c, _, _, rfl, rfl, he2⟩ := he1.i_inv
  obtain ⟨l, _, _, rfl, rfl, he3⟩ := he2.s_inv
  obtain ⟨rfl, rfl⟩ := he3.nil_inv
  obtain ⟨_, _, _, _, rfl, rfl, hs4, he4⟩ := he0.st_inv
  obtain ⟨x, _, _, rfl, rfl, he5⟩ := hs4.i_inv
  obtain ⟨y, _, _, rfl, rfl, he6⟩ := he5.i_inv
  obtain ⟨a, _, _, rfl, rfl, he7⟩ := he6.i_inv
  obtain ⟨b, _, _, rfl, rfl, he8⟩ := he7.i_inv
  obtain ⟨rfl, rfl⟩ := he8.nil_inv
  obtain ⟨rfl, rfl⟩ := he4.nil_inv
  exact h r c l x y a b hp
end EqLaw10P
end Go.Proofs.S1

/- Chapter 10's laws: parts of matrices, in new memory. -/
namespace Go.Proofs.S1
open Go Go.Den Go.Rnd Go.Proofs
open EqLaw10P

theorem spoil_loop (N : Nat) (r c : Int) : ∀ (k i F : Nat) (l : List Int), i + k = l.length → l.length ≤ maxLen → k < F → law10.spoil.L0 N F r c (i : Int) l = some () := by
  intro k
  induction k with
  | zero =>
    intro i F l hi _ hF
    obtain ⟨F, rfl⟩ : ∃ G, F = G + 1 := ⟨F - 1, by omega⟩
    rw [law10.spoil.L0_step, ltI_eq, decide_eq_false (by omega), cond_false]
  | succ k ih =>
    intro i F l hi hm hF
    obtain ⟨F, rfl⟩ : ∃ G, F = G + 1 := ⟨F - 1, by omega⟩
    have h63 : l.length ≤ 9223372036854775807 := hm
    rw [law10.spoil.L0_step, ltI_eq, decide_eq_true (show (i : Int) < (l.length : Int) by omega), cond_true, decide_eq_true (show (0 : Int) ≤ (i : Int) by omega), Bool.and_self, cond_true, Int.toNat_natCast,
      decide_eq_true (show i < l.length by omega), cond_true, cond_true, cond_true, w_i64_in (by omega) (by omega)]
    exact ih (i + 1) F _ (by rw [List.length_set]; omega) (by rw [List.length_set]; exact hm) (by omega)

theorem law10.spoil.fact : SpoilFact Try.prog 26 39 := law10.spoil.spoil_of (fuel := fun l => l.length + 1) fun r c l hl => by
  rw [law10.spoil.ev]
  exact spoil_loop _ r c l.length 0 (l.length + 1) l (by omega) hl (by omega)

theorem ref10.Copy.own.known : Known Try.prog 24 ref10.Copy.own.spec := ref10.Copy.own.known_of .nil fun r c l hp => by
  have hp := cdec_eq.1 (show okLen l = true from hp)
  refine ⟨0, .agg [.int .i64 r, .int .i64 c, .ints (.own 10 39) .u64 l], [], ?_, Wk.aggL (.cons .int (.cons .int (.cons (.keep _ _ _ _ (List.not_mem_nil)) .nil)))⟩
  rw [ref10.Copy.own.ev, List.nil_append, decide_eq_true (show 0 + l.length ≤ lim by unfold lim; omega)]
  rfl

theorem told_self (r c : Int) (l : List Int) : toldB r c l 0 r c l 0 = true := by
  unfold toldB; rw [if_pos rfl, same_self]; rfl
theorem told_none {e : Int} (h : e ≠ 0) : toldB 0 0 [] e 0 0 [] e = true := by
  unfold toldB; rw [if_neg h, same_self, decide_eq_true rfl]; rfl

theorem law10.MatrixParts.known : Known Try.prog 6 law10.MatrixParts.spec := law10.MatrixParts.known_of (.cons law10.awake.known (.cons law10.told.known (.cons matrix.Part.known (.cons matrix.Turn.known (.cons ref10.Copy.own.known (.cons ref10.In.known (.cons ref10.Part.known (.cons ref10.Right.known (.cons ref10.Turn.known .nil))))))))) law10.spoil.fact fun r c l x y a b hp => by
  obtain ⟨ol, _⟩ := and_true_iff.1 hp
  refine ⟨0, law10.MatrixParts.out [.i r, .i c, .l l, .i x, .i y, .i a, .i b], [], ?_, .bool⟩
  show _ = some (DV.bool true)
  have o0 : okLen [] = true := okLen_of (by decide)
  rw [law10.MatrixParts.ev, ol, cond_true]
  unfold partX
  cases hr : rightB r c l with
  | false =>
    unfold turnX
    rw [hr, if_neg (by decide), if_neg (by decide)]
    unfold noX
    dsimp only
    rw [o0, told_none (by decide)]
    rfl
  | true =>
    obtain ⟨R, C, rfl, rfl, r6, c6, hl⟩ := right_nat hr
    rw [turn_nat hr, if_pos rfl, Int.toNat_natCast, Int.toNat_natCast]
    dsimp only
    rw [grid_ok c6 r6, told_self, Bool.not_true, cond_false, cond_true, cond_true, cond_false, cond_true]
    cases hq : partB (R : Int) (C : Int) x y a b with
    | false =>
      rw [if_neg (by decide)]
      unfold noX
      dsimp only
      rw [o0, told_none (by decide)]
      rfl
    | true =>
      have hq' := of_decide_eq_true hq
      obtain ⟨A, rfl⟩ : ∃ n : Nat, a = n := ⟨a.toNat, by omega⟩
      obtain ⟨B, rfl⟩ : ∃ n : Nat, b = n := ⟨b.toNat, by omega⟩
      rw [if_pos rfl, Int.toNat_natCast, Int.toNat_natCast]
      dsimp only
      rw [grid_ok (by omega) (by omega), told_self]
      rfl

end Go.Proofs.S1
