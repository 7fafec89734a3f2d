/- A verified evaluator of the program's form and its use for this seat: S1EqRefA, S1PRefA, S1PRefAa, S1EqRefB, S1PRefB, S1PRefBa, S1EqRefC, S1PRefC, S1PRefCa, S1EqRefE, S1PRefV, S1PPack, S1PNear, S1EqSum. -/
import Derived.Test.YtjbokjpbiobjpaaGreatTE
import Derived.Test.YtjbokjpbiobjpaaGreatTF
set_option linter.unusedVariables false
set_option linter.unusedSimpArgs false
noncomputable section
namespace Go.Proofs.S1
open Go Go.Den Go.Rnd Go.Proofs
set_option maxRecDepth 100000
namespace EqRefA
theorem E3 : ∀ a b : Bool, (bif a then b else false) = (a && b) := by decide
theorem Jn : ∀ a : Bool, (((!a) || (a == true)) && true) = true := by decide
theorem Iw : ∀ a : Bool, ((!(a == true)) || ((((!(a == true)) || (a == true)) && (((!(a == true)) || (a == true)) && true)) && true)) = true := by decide
theorem Ia : ∀ a : Bool, ((!(a == true)) || ((((!(a == true)) || (a == true)) && true) && true)) = true := by decide
theorem Gd : ∀ a : Bool, ((!(a == true)) || true) = true := by decide
theorem Jg : ∀ a b : Bool, ((a && b) && true) = (a && b) := by decide
theorem Ld : ∀ a b c : Bool, ((!(a == true)) || ((((!(a == true)) || (a == true)) && (((!(a == true)) || (a == true)) && true)) && (b && c))) = ((!a) || (b && c)) := by decide
theorem Lx : ∀ a : Bool, (a && true) = a := by decide
def Af.Ji.A7 : List (Nat × Entry) := []
def Af.Ji.E : Env := Bb (A5 Af.Ji.A7) (fun _ => false) (fun _ => none) (fun _ => none)
theorem Af.Ji.ev (N : Nat) (l : List Int) (i : Int) : Bx Af.Ji.E N Tryz.f221 (An Tryz.f221) [.ints .arg .u32 l, .int .i64 i] = bif ((D2 (0 : Int) i) && (A4 i (List.length l : Int))) then bif ((decide (0 ≤ i)) && (decide (i < (List.length l : Int)))) then some (.int .u64 (Bh (List.getD l (Int.toNat i) 0))) else none else some (.int .u64 0) :=
  Eq.trans (by kernel_rfl)
  (Ax (Gd (D2 (0 : Int) i)) (Ax (Gd (D2 (0 : Int) i)) (Ax (Ia (D2 (0 : Int) i)) (Ax (Iw (D2 (0 : Int) i)) (Ax (Jn (D2 (0 : Int) i)) (Cx (E3 (D2 (0 : Int) i) (A4 i (List.length l : Int))) rfl rfl))))))
abbrev _root_.Go.Proofs.S1.Af.Ji.Kn := A3 Tryz.prog 221 Af.Ji.spec
theorem Af.Ji.Ac (hk : Ay Tryz.prog Af.Ji.A7) (h : ∀ (l : List Int) (i : Int), Af.Ji.pre [.l l, .i i] = true → Bc Af.Ji.E Tryz.f221 [.ints .arg .u32 l, .int .i64 i] (Af.Ji.out [.l l, .i i])) : Af.Ji.Kn :=
  Ak (Az hk _ _ _) Tryz.func221 (by kernel_rfl) (by kernel_rfl) h
def Af.Made.hint : Nat → Option Ba
  | 0 => some { keep := [0, 1, 4, 5], objs := [], boxes := [4] }
  | _ => none
def Af.Made.A7 : List (Nat × Entry) := []
def Af.Made.E : Env := Bb (A5 Af.Made.A7) (fun _ => false) Af.Made.hint (fun _ => none)
def Af.Made.L0 (N M : Nat) (n : Bool) (l : List Int) (p5 : Int) : Option DV := B0 Af.Made.E N Tryz.f171 (An Tryz.f171) [1, 1, 0, 0] [] M ⟨F7 28 [(0, .bool n), (1, .ints .arg .u32 l), (4, .ptr 4 0 0), (5, .int .i64 p5)], [(4, false, .box [.bool false, .nil])]⟩
theorem Af.Made.As (N M : Nat) (n : Bool) (l : List Int) (p5 : Int) : Af.Made.L0 N (M + 1) n l p5 = bif ((!(A4 (0 : Int) p5)) || ((decide (0 ≤ (Ab (p5 - (1 : Int))))) && (decide ((Ab (p5 - (1 : Int))) < (List.length l : Int))))) then bif ((A4 (0 : Int) p5) && ((List.getD l (Int.toNat (Ab (p5 - (1 : Int)))) 0) == (0 : Int))) then Af.Made.L0 N M n l (Ab (p5 - (1 : Int))) else bif (p5 == (0 : Int)) then some (.agg [.bool false, .nil]) else bif ((decide ((0 : Int) ≤ p5)) && (decide (p5 ≤ (List.length l : Int)))) then some (.agg [.bool n, .ints .arg .u32 (List.take (Int.toNat p5) l)]) else none else none :=
  Eq.trans (by kernel_rfl)
  (Ax (Gd (A4 (0 : Int) p5)) (Ax (Gd (A4 (0 : Int) p5)) (Ax (Ia (A4 (0 : Int) p5)) (Cx (Ld (A4 (0 : Int) p5) (decide (0 ≤ (Ab (p5 - (1 : Int))))) (decide ((Ab (p5 - (1 : Int))) < (List.length l : Int)))) (Ax (Ia (A4 (0 : Int) p5)) (Ax (Ia (A4 (0 : Int) p5)) (Ax (Jn (A4 (0 : Int) p5)) (Cx (E3 (A4 (0 : Int) p5) ((List.getD l (Int.toNat (Ab (p5 - (1 : Int)))) 0) == (0 : Int))) rfl (Ee rfl (Cx (Jg (decide ((0 : Int) ≤ p5)) (decide (p5 ≤ (List.length l : Int)))) rfl rfl)))))) rfl))))
theorem Af.Made.ev (N : Nat) (n : Bool) (l : List Int) : Bx Af.Made.E N Tryz.f171 (An Tryz.f171) [.bool n, .ints .arg .u32 l] =
  Af.Made.L0 N N n l (List.length l : Int) := by kernel_rfl
abbrev _root_.Go.Proofs.S1.Af.Made.Kn := A3 Tryz.prog 171 Af.Made.spec
theorem Af.Made.Ac (hk : Ay Tryz.prog Af.Made.A7) (h : ∀ (n : Bool) (l : List Int), Af.Made.pre [.b n, .l l] = true → Bc Af.Made.E Tryz.f171 [.bool n, .ints .arg .u32 l] (Af.Made.out [.b n, .l l])) : Af.Made.Kn :=
  Ak (Az hk _ _ _) Tryz.func171 (by kernel_rfl) (by kernel_rfl) h
def Af.Of.A7 : List (Nat × Entry) := [(171, Af.Made.spec)]
def Af.Of.E : Env := Bb (A5 Af.Of.A7) (fun _ => false) (fun _ => none) (fun _ => none)
theorem Af.Of.ev (N : Nat) (n : Int) : Bx Af.Of.E N Tryz.f115 (An Tryz.f115) [.int .i64 n] = bif (A4 n (0 : Int)) then bif (G7 [(Jl (Int.tmod (Bh ((Bh (Ab (0 - (Ab (n + (1 : Int)))))) + (1 : Int))) (4294967296 : Int))), (Jl (Bh (Int.tdiv (Bh ((Bh (Ab (0 - (Ab (n + (1 : Int)))))) + (1 : Int))) (4294967296 : Int))))]) then some (.agg [.bool (Bg (wv true [(Jl (Int.tmod (Bh ((Bh (Ab (0 - (Ab (n + (1 : Int)))))) + (1 : Int))) (4294967296 : Int))), (Jl (Bh (Int.tdiv (Bh ((Bh (Ab (0 - (Ab (n + (1 : Int)))))) + (1 : Int))) (4294967296 : Int))))])), .ints .arg .u32 (Ap (wv true [(Jl (Int.tmod (Bh ((Bh (Ab (0 - (Ab (n + (1 : Int)))))) + (1 : Int))) (4294967296 : Int))), (Jl (Bh (Int.tdiv (Bh ((Bh (Ab (0 - (Ab (n + (1 : Int)))))) + (1 : Int))) (4294967296 : Int))))]))]) else none else bif (G7 [(Jl (Int.tmod n (4294967296 : Int))), (Jl (Ab (Int.tdiv n (4294967296 : Int))))]) then some (.agg [.bool (Bg (wv false [(Jl (Int.tmod n (4294967296 : Int))), (Jl (Ab (Int.tdiv n (4294967296 : Int))))])), .ints .arg .u32 (Ap (wv false [(Jl (Int.tmod n (4294967296 : Int))), (Jl (Ab (Int.tdiv n (4294967296 : Int))))]))]) else none := by kernel_rfl
abbrev _root_.Go.Proofs.S1.Af.Of.Kn := A3 Tryz.prog 115 Af.Of.spec
theorem Af.Of.Ac (hk : Ay Tryz.prog Af.Of.A7) (h : ∀ (n : Int), Af.Of.pre [.i n] = true → Bc Af.Of.E Tryz.f115 [.int .i64 n] (Af.Of.out [.i n])) : Af.Of.Kn :=
  Ak (Az hk _ _ _) Tryz.func115 (by kernel_rfl) (by kernel_rfl) h
def Af.H8.hint : Nat → Option Ba
  | 0 => some { keep := [0, 1, 5], objs := [], boxes := [] }
  | _ => none
def Af.H8.A7 : List (Nat × Entry) := [(221, Af.Ji.spec)]
def Af.H8.E : Env := Bb (A5 Af.H8.A7) (fun _ => false) Af.H8.hint (fun _ => none)
def Af.H8.L0 (N M : Nat) (a b : List Int) (p5 : Int) : Option DV := B0 Af.H8.E N Tryz.f176 (An Tryz.f176) [1, 0, 1, 0] [] M ⟨F7 29 [(0, .ints .arg .u32 a), (1, .ints .arg .u32 b), (5, .int .i64 p5)], []⟩
theorem Af.H8.As (N M : Nat) (a b : List Int) (p5 : Int) : Af.H8.L0 N (M + 1) a b p5 = bif (D2 (0 : Int) p5) then bif (G7 a) then bif (G7 b) then bif (A4 (Gi a p5) (Gi b p5)) then some (.int .i64 (-1 : Int)) else bif (G7 a) then bif (G7 b) then bif (A4 (Gi b p5) (Gi a p5)) then some (.int .i64 1) else Af.H8.L0 N M a b (Ab (p5 - (1 : Int))) else none else none else none else none else some (.int .i64 0) := by kernel_rfl
theorem Af.H8.ev (N : Nat) (a b : List Int) : Bx Af.H8.E N Tryz.f176 (An Tryz.f176) [.ints .arg .u32 a, .ints .arg .u32 b] =
  Af.H8.L0 N N a b (max (List.length a : Int) (List.length b : Int)) := by kernel_rfl
abbrev _root_.Go.Proofs.S1.Af.H8.Kn := A3 Tryz.prog 176 Af.H8.spec
theorem Af.H8.Ac (hk : Ay Tryz.prog Af.H8.A7) (h : ∀ (a b : List Int), Af.H8.pre [.l a, .l b] = true → Bc Af.H8.E Tryz.f176 [.ints .arg .u32 a, .ints .arg .u32 b] (Af.H8.out [.l a, .l b])) : Af.H8.Kn :=
  Ak (Az hk _ _ _) Tryz.func176 (by kernel_rfl) (by kernel_rfl) h
def Af.plus.hint : Nat → Option Ba
  | 0 => some { keep := [0, 1, 5, 6, 7], objs := [(0, 5, 100005, .ints 173 .u32 [])], boxes := [] }
  | _ => none
def Af.plus.A7 : List (Nat × Entry) := [(221, Af.Ji.spec)]
def Af.plus.E : Env := Bb (A5 Af.plus.A7) (fun _ => false) Af.plus.hint (fun _ => none)
def Af.plus.L0 (N M : Nat) (a b : List Int) (p6 p7 : Int) (p5 : List Int) : Option DV := B0 Af.plus.E N Tryz.f174 (An Tryz.f174) [1, 1, 1, 0, 1, 0] [] M ⟨F7 37 [(0, .ints .arg .u32 a), (1, .ints .arg .u32 b), (5, .oref 100005), (6, .int .u64 p6), (7, .int .i64 p7)], [(100005, false, .ints 173 .u32 p5)]⟩
theorem Af.plus.As (N M : Nat) (a b : List Int) (p6 p7 : Int) (p5 : List Int) : Af.plus.L0 N (M + 1) a b p6 p7 p5 = bif (D2 p7 (max (List.length a : Int) (List.length b : Int))) then bif (G7 a) then bif (G7 b) then bif (decide ((List.length p5) + 1 ≤ Hc)) then Af.plus.L0 N M a b (Bh (Int.tdiv (Bh ((Bh ((Gi a p7) + (Gi b p7))) + p6)) (4294967296 : Int))) (Ab (p7 + (1 : Int))) (p5 ++ [(Jl (Int.tmod (Bh ((Bh ((Gi a p7) + (Gi b p7))) + p6)) (4294967296 : Int)))]) else none else none else none else some (.ints (.own 100005 173) .u32 p5) := by kernel_rfl
theorem Af.plus.ev (N : Nat) (a b : List Int) : Bx Af.plus.E N Tryz.f174 (An Tryz.f174) [.ints .arg .u32 a, .ints .arg .u32 b] =
  Af.plus.L0 N N a b (0 : Int) (0 : Int) [] := by kernel_rfl
abbrev _root_.Go.Proofs.S1.Af.plus.Kn := A3 Tryz.prog 174 Af.plus.spec
theorem Af.plus.Ac (hk : Ay Tryz.prog Af.plus.A7) (h : ∀ (a b : List Int), Af.plus.pre [.l a, .l b] = true → Bc Af.plus.E Tryz.f174 [.ints .arg .u32 a, .ints .arg .u32 b] (Af.plus.out [.l a, .l b])) : Af.plus.Kn :=
  Ak (Az hk _ _ _) Tryz.func174 (by kernel_rfl) (by kernel_rfl) h
def Af.minus.hint : Nat → Option Ba
  | 0 => some { keep := [0, 1, 5, 6, 7], objs := [(0, 5, 100005, .ints 173 .u32 [])], boxes := [] }
  | _ => none
def Af.minus.A7 : List (Nat × Entry) := [(221, Af.Ji.spec)]
def Af.minus.E : Env := Bb (A5 Af.minus.A7) (fun _ => false) Af.minus.hint (fun _ => none)
def Af.minus.L0 (N M : Nat) (a b : List Int) (p6 p7 : Int) (p5 : List Int) : Option DV := B0 Af.minus.E N Tryz.f177 (An Tryz.f177) [1, 1, 1, 0, 1, 0] [] M ⟨F7 36 [(0, .ints .arg .u32 a), (1, .ints .arg .u32 b), (5, .oref 100005), (6, .int .u64 p6), (7, .int .i64 p7)], [(100005, false, .ints 173 .u32 p5)]⟩
theorem Af.minus.As (N M : Nat) (a b : List Int) (p6 p7 : Int) (p5 : List Int) : Af.minus.L0 N (M + 1) a b p6 p7 p5 = bif (A4 p7 (List.length a : Int)) then bif (G7 a) then bif (G7 b) then bif (decide ((List.length p5) + 1 ≤ Hc)) then Af.minus.L0 N M a b (Bh ((1 : Int) - (Bh (Int.tdiv (Bh ((Bh ((Bh ((4294967296 : Int) + (Gi a p7))) - (Gi b p7))) - p6)) (4294967296 : Int))))) (Ab (p7 + (1 : Int))) (p5 ++ [(Jl (Int.tmod (Bh ((Bh ((Bh ((4294967296 : Int) + (Gi a p7))) - (Gi b p7))) - p6)) (4294967296 : Int)))]) else none else none else none else some (.ints (.own 100005 173) .u32 p5) := by kernel_rfl
theorem Af.minus.ev (N : Nat) (a b : List Int) : Bx Af.minus.E N Tryz.f177 (An Tryz.f177) [.ints .arg .u32 a, .ints .arg .u32 b] =
  Af.minus.L0 N N a b (0 : Int) (0 : Int) [] := by kernel_rfl
abbrev _root_.Go.Proofs.S1.Af.minus.Kn := A3 Tryz.prog 177 Af.minus.spec
theorem Af.minus.Ac (hk : Ay Tryz.prog Af.minus.A7) (h : ∀ (a b : List Int), Af.minus.pre [.l a, .l b] = true → Bc Af.minus.E Tryz.f177 [.ints .arg .u32 a, .ints .arg .u32 b] (Af.minus.out [.l a, .l b])) : Af.minus.Kn :=
  Ak (Az hk _ _ _) Tryz.func177 (by kernel_rfl) (by kernel_rfl) h
def Af.Add.A7 : List (Nat × Entry) := [(171, Af.Made.spec), (176, Af.H8.spec), (177, Af.minus.spec), (174, Af.plus.spec)]
def Af.Add.E : Env := Bb (A5 Af.Add.A7) (fun _ => false) (fun _ => none) (fun _ => none)
theorem Af.Add.ev (N : Nat) (n : Bool) (a : List Int) (m : Bool) (b : List Int) : Bx Af.Add.E N Tryz.f112 (An Tryz.f112) [.agg [.bool n, .ints .arg .u32 a], .agg [.bool m, .ints .arg .u32 b]] = bif (n == m) then bif (G7 a && G7 b) then bif (G7 (Js a b)) then some (.agg [.bool (Bg (wv n (Js a b))), .ints .arg .u32 (Ap (wv n (Js a b)))]) else none else none else bif (G7 a && G7 b) then bif (A4 (U1 (Ck a) (Ck b)) (0 : Int)) then bif ((G7 b && G7 a) && leL a b) then bif (G7 (Gx b a)) then some (.agg [.bool (Bg (wv m (Gx b a))), .ints .arg .u32 (Ap (wv m (Gx b a)))]) else none else none else bif ((G7 a && G7 b) && leL b a) then bif (G7 (Gx a b)) then some (.agg [.bool (Bg (wv n (Gx a b))), .ints .arg .u32 (Ap (wv n (Gx a b)))]) else none else none else none :=
  Eq.trans (by kernel_rfl)
  (Ee (Cx (Lx (G7 a && G7 b)) (Cx (Lx (G7 (Js a b))) rfl rfl) rfl) (Ee (Ee (Cx (Lx ((G7 b && G7 a) && leL a b)) (Cx (Lx (G7 (Gx b a))) rfl rfl) rfl) (Cx (Lx ((G7 a && G7 b) && leL b a)) (Cx (Lx (G7 (Gx a b))) rfl rfl) rfl)) rfl))
abbrev _root_.Go.Proofs.S1.Af.Add.Kn := A3 Tryz.prog 112 Af.Add.spec
theorem Af.Add.Ac (hk : Ay Tryz.prog Af.Add.A7) (h : ∀ (n : Bool) (a : List Int) (m : Bool) (b : List Int), Af.Add.pre [.b n, .l a, .b m, .l b] = true → Bc Af.Add.E Tryz.f112 [.agg [.bool n, .ints .arg .u32 a], .agg [.bool m, .ints .arg .u32 b]] (Af.Add.out [.b n, .l a, .b m, .l b])) : Af.Add.Kn :=
  Ak (Az hk _ _ _) Tryz.func112 (by kernel_rfl) (by kernel_rfl) h
def Af.Neg.A7 : List (Nat × Entry) := [(171, Af.Made.spec)]
def Af.Neg.E : Env := Bb (A5 Af.Neg.A7) (fun _ => false) (fun _ => none) (fun _ => none)
theorem Af.Neg.ev (N : Nat) (n : Bool) (a : List Int) : Bx Af.Neg.E N Tryz.f143 (An Tryz.f143) [.agg [.bool n, .ints .arg .u32 a]] = bif (G7 a) then some (.agg [.bool (Bg (wv (!n) a)), .ints .arg .u32 (Ap (wv (!n) a))]) else none := by kernel_rfl
abbrev _root_.Go.Proofs.S1.Af.Neg.Kn := A3 Tryz.prog 143 Af.Neg.spec
theorem Af.Neg.Ac (hk : Ay Tryz.prog Af.Neg.A7) (h : ∀ (n : Bool) (a : List Int), Af.Neg.pre [.b n, .l a] = true → Bc Af.Neg.E Tryz.f143 [.agg [.bool n, .ints .arg .u32 a]] (Af.Neg.out [.b n, .l a])) : Af.Neg.Kn :=
  Ak (Az hk _ _ _) Tryz.func143 (by kernel_rfl) (by kernel_rfl) h
end EqRefA
open EqRefA
theorem Af.Ji.known : Af.Ji.Kn := Af.Ji.Ac .nil fun l i hp => by
  obtain ⟨hl, hi⟩ := Ko hp
  refine ⟨0, Af.Ji.out [.l l, .i i], [], ?_, .int⟩
  rw [Af.Ji.ev, D6, Ar]
  show _ = some (DV.int .u64 (Gi l i))
  by_cases h0 : 0 ≤ i
  · obtain ⟨k, rfl⟩ : ∃ k : Nat, i = k := ⟨i.toNat, by omega⟩
    have hv := G0 hi k
    have hg := Q6 hi k
    rw [hv, As4, hg, As3 h0, Bool.true_and]
    by_cases h1 : (k : Int) < (l.length : Int)
    · rw [As3 h1, As2, As2, Dc (by omega) (by omega)]
    · have h2 : l.getD k 0 = 0 := by
        rw [Atc, List.getElem?_eq_none (by omega)]; rfl
      rw [h2] at hg
      rw [As7 h1, As6, ← hg]
  · have : Gi l i = 0 := by unfold Gi; rw [if_neg h0]
    rw [As7 h0, Bool.false_and, As6, this]
theorem Ach {drops : List Nat} {b : Bool} {l : List Int} : Wk drops (.agg [.bool b, .ints .arg .u32 l]) (.agg [.bool b, .ints .arg .u32 l]) := Wk.G3 (.cons .bool (.cons .Vw .nil))
theorem Ai1 : Bg 0 = false := rfl
theorem Adv : Ap 0 = [] := rfl
theorem Ajb (N : Nat) (n : Bool) {l : List Int} (hl : l.length < 1073741824) (hi : X0 l) : ∀ (p F : Nat), p ≤ l.length → p < F → Ck l < 2 ^ (32 * p) →
    ∃ dv, Af.Made.L0 N F n l (p : Int) = some dv ∧ Wk [] dv (.agg [.bool (Bg (wv n l)), .ints .arg .u32 (Ap (wv n l))]) := by
  have hlast : ∀ p, p ≤ l.length → Dg (Ck l) = p → p ≠ 0 → some (DV.agg [.bool n, .ints .arg .u32 (l.take p)]) = some (DV.agg [.bool (Bg (wv n l)), .ints .arg .u32 (Ap (wv n l))]) := by
    intro p hp hq h0
    have h1 := Af1 hi
    rw [hq] at h1
    have h2 : Ck l ≠ 0 := fun h => by rw [h] at hq; exact h0 hq.symm
    have e : (wv n l).natAbs = Ck l := by unfold wv Hh; split <;> omega
    have e1 : Ap (wv n l) = Pz (Ck l) := by unfold Ap; rw [e]
    have e2 : Bg (wv n l) = n := by unfold Bg wv Hh; cases n <;> simp <;> omega
    rw [h1, e1, e2]
  intro p
  induction p with
  | zero =>
    intro F hp hF hv
    obtain ⟨F, rfl⟩ : ∃ G, F = G + 1 := ⟨F - 1, by omega⟩
    have hz : wv n l = 0 := by
      have : Ck l = 0 := by rw [Nat.mul_zero, Nat.pow_zero] at hv; omega
      unfold wv Hh; rw [this]; cases n <;> rfl
    refine ⟨.agg [.bool false, .nil], ?_, ?_⟩
    · rw [Af.Made.As, Ar]; rfl
    · rw [hz, Ai1, Adv]
      exact Wk.G3 (.cons .bool (.cons (.nil _ _) .nil))
  | succ p ih =>
    intro F hp hF hv
    obtain ⟨F, rfl⟩ : ∃ G, F = G + 1 := ⟨F - 1, by omega⟩
    rw [Af.Made.As, Ar, Am (by omega) (by omega)]
    have e0 : ((p + 1 : Nat) : Int) - 1 = (p : Int) := by omega
    have t0 : decide ((0 : Int) < ((p + 1 : Nat) : Int)) = true := As3 (by omega)
    have t1 : decide ((0 : Int) ≤ (p : Int)) = true := by simp
    have t2 : decide ((p : Int) < (l.length : Int)) = true := by simp; omega
    have hg := Q6 hi p
    have hq : Ck l / 2 ^ (32 * p) < 4294967296 := by
      rw [Nat.div_lt_iff_lt_mul (Ch _), ← Nw]; exact hv
    rw [Atf hq] at hg
    rw [e0, t0, t1, t2, As4, hg]
    simp only [Bool.not_true, As8, Bool.false_or, As2, Bool.true_and]
    by_cases hz : Ck l / 2 ^ (32 * p) = 0
    · have : (((Ck l / 2 ^ (32 * p) : Nat) : Int) == 0) = true := by rw [hz]; rfl
      rw [this, As2]
      refine ih F (by omega) (by omega) ?_
      rcases Nat.lt_or_ge (Ck l) (2 ^ (32 * p)) with h | h
      · exact h
      · have := Nat.div_pos h (Ch _); omega
    · have : (((Ck l / 2 ^ (32 * p) : Nat) : Int) == 0) = false := by simp only [beq_eq_false_iff_ne, ne_eq]; omega
      have t3 : (((p + 1 : Nat) : Int) == 0) = false := by simp only [beq_eq_false_iff_ne, ne_eq]; omega
      have t4 : decide (((p + 1 : Nat) : Int) ≤ (l.length : Int)) = true := by simp; omega
      have t5 : decide ((0 : Int) ≤ ((p + 1 : Nat) : Int)) = true := As3 (by omega)
      rw [this, As6, t3, As6, t4, t5, As8, As2, As4]
      have hlen : Dg (Ck l) = p + 1 := by
        have a1 := M7 hv
        have a2 := Ao2 (n := Ck l) (k := p) (by
          rcases Nat.lt_or_ge (Ck l) (2 ^ (32 * p)) with h | h
          · exact absurd (Nat.div_eq_of_lt h) hz
          · exact h)
        omega
      exact ⟨_, hlast (p + 1) hp hlen (by omega), Ach⟩
theorem Af.Made.known : Af.Made.Kn := Af.Made.Ac .nil fun n l hp => by
  obtain ⟨hl, hi⟩ := Ko hp
  obtain ⟨dv, h1, h2⟩ := Ajb (l.length + 1) n hl hi l.length (l.length + 1) (Nat.le_refl _) (by omega) (Mw hi)
  exact ⟨l.length + 1, dv, [], by rw [Af.Made.ev]; exact h1, h2⟩
theorem Y9 {a b : Int} (ha : 0 ≤ a ∧ a < 4294967296) (hb : 0 ≤ b ∧ b < 4294967296) : G7 [a, b] = true :=
  Ng (show 2 < 1073741824 by decide) fun x hx => by
    rcases List.mem_cons.1 hx with rfl | hx
    · exact ha
    · rcases List.mem_cons.1 hx with rfl | hx
      · exact hb
      · cases hx
theorem Ahi : (4294967296 : Int) = ((4294967296 : Nat) : Int) := rfl
theorem Af.Of.known : Af.Of.Kn := Af.Of.Ac (.cons Af.Made.known .nil) fun n hp => by
  have hp := Av.1 hp
  refine ⟨0, Af.Of.out [.i n], [], ?_, Ach⟩
  rw [Af.Of.ev, Ar]
  show _ = some (DV.agg [.bool (Bg n), .ints .arg .u32 (Ap n)])
  by_cases h : n < 0
  · obtain ⟨k, rfl⟩ : ∃ k : Nat, n = -(k : Int) := ⟨(-n).toNat, by omega⟩
    have e1 : Bh (Bh (Ab (0 - Ab (-(k : Int) + 1))) + 1) = (k : Int) := by
      rw [Am (x := -(k : Int) + 1) (by omega) (by omega), Am (by omega) (by omega), Dc (x := 0 - (-(k : Int) + 1)) (by omega) (by omega), Dc (by omega) (by omega)]; omega
    rw [As3 h, As2, e1, Ahi, Jo, Jp, Ks (by omega) (by omega), Dc (by omega) (by omega), Ks (by omega) (by omega),
      Y9 (by omega) (by omega), As2]
    have e2 : wv true [((k % 4294967296 : Nat) : Int), ((k / 4294967296 : Nat) : Int)] = -(k : Int) := by
      unfold wv Hh Ck Ck Ck
      rw [if_pos rfl, As4, As4]
      omega
    rw [e2]
  · obtain ⟨k, rfl⟩ : ∃ k : Nat, n = (k : Int) := ⟨n.toNat, by omega⟩
    rw [As7 h, As6, Ahi, Jo, Jp, Ks (by omega) (by omega), Am (by omega) (by omega), Ks (by omega) (by omega),
      Y9 (by omega) (by omega), As2]
    have e2 : wv false [((k % 4294967296 : Nat) : Int), ((k / 4294967296 : Nat) : Int)] = (k : Int) := by
      unfold wv Hh Ck Ck Ck
      rw [if_neg (by decide), As4, As4]
      omega
    rw [e2]
theorem Af.Neg.known : Af.Neg.Kn := Af.Neg.Ac (.cons Af.Made.known .nil) fun n a hp => by
  obtain ⟨v, rfl, rfl, hv⟩ := Iy hp
  refine ⟨0, Af.Neg.out [.b (Bg v), .l (Ap v)], [], ?_, Ach⟩
  rw [Af.Neg.ev, N1 (by omega), As2, Aqd]
  rfl
open EqRefA
theorem Ai9 (N : Nat) {a b : List Int} (ha : G7 a = true) (hb : G7 b = true) : ∀ (j F : Nat), j < 4000000000 → j < F → Ck a / 2 ^ (32 * j) = Ck b / 2 ^ (32 * j) →
    Af.H8.L0 N F a b ((j : Int) - 1) = some (.int .i64 (U1 (Ck a) (Ck b))) := by
  have ia := (Ko ha).2
  have ib := (Ko hb).2
  intro j
  induction j with
  | zero =>
    intro F hj hF h
    obtain ⟨F, rfl⟩ : ∃ G, F = G + 1 := ⟨F - 1, by omega⟩
    rw [Nat.mul_zero, Nat.pow_zero, Nat.div_one, Nat.div_one] at h
    have e : U1 (Ck a) (Ck b) = 0 := by unfold U1; rw [if_neg (by omega), if_neg (by omega)]
    rw [Af.H8.As, D6, e]
    rfl
  | succ j ih =>
    intro F hj hF h
    obtain ⟨F, rfl⟩ : ∃ G, F = G + 1 := ⟨F - 1, by omega⟩
    have e0 : ((j + 1 : Nat) : Int) - 1 = (j : Int) := by omega
    have t0 : decide ((0 : Int) ≤ (j : Int)) = true := As3 (by omega)
    rw [Nw, Nat.mul_comm, ← Nat.div_div_eq_div_mul, ← Nat.div_div_eq_div_mul] at h
    have up : Ck a / 2 ^ (32 * j) < Ck b / 2 ^ (32 * j) → Ck a < Ck b := fun k => by
      rcases Nat.lt_or_ge (Ck a) (Ck b) with h1 | h1
      · exact h1
      · have := Nat.div_le_div_right (c := 2 ^ (32 * j)) h1; omega
    have down : Ck b / 2 ^ (32 * j) < Ck a / 2 ^ (32 * j) → Ck b < Ck a := fun k => by
      rcases Nat.lt_or_ge (Ck b) (Ck a) with h1 | h1
      · exact h1
      · have := Nat.div_le_div_right (c := 2 ^ (32 * j)) h1; omega
    rw [Af.H8.As, e0, D6, t0, As2, ha, hb, As2, As2, Ar, Ar, G0 ia, G0 ib, Am (by omega) (by omega)]
    have ih := ih F (by omega) (by omega)
    generalize Ck a / 2 ^ (32 * j) = x at *
    generalize Ck b / 2 ^ (32 * j) = y at *
    by_cases h1 : x % 4294967296 < y % 4294967296
    · have e : U1 (Ck a) (Ck b) = -1 := by unfold U1; rw [if_pos (up (by omega))]
      rw [As3 (by omega), As2, e]
    · rw [As7 (by omega), As6]
      by_cases h2 : y % 4294967296 < x % 4294967296
      · have := down (by omega)
        have e : U1 (Ck a) (Ck b) = 1 := by unfold U1; rw [if_neg (by omega), if_pos this]
        rw [As3 (by omega), As2, e]
        rfl
      · rw [As7 (by omega), As6]
        exact ih (by omega)
theorem Ahp {l : List Int} (h : X0 l) {j : Nat} (hj : l.length ≤ j) : Ck l / 2 ^ (32 * j) = 0 :=
  Nat.div_eq_of_lt (Nat.lt_of_lt_of_le (Mw h) (Ath (by decide) (by omega)))
theorem Af.H8.known : Af.H8.Kn := Af.H8.Ac (.cons Af.Ji.known .nil) fun a b hp => by
  obtain ⟨ha, hb⟩ := Ad.1 hp
  obtain ⟨la, ia⟩ := Ko ha
  obtain ⟨lb, ib⟩ := Ko hb
  refine ⟨max a.length b.length + 2, Af.H8.out [.l a, .l b], [], ?_, .int⟩
  rw [Af.H8.ev]
  have e : max (a.length : Int) (b.length : Int) = ((max a.length b.length + 1 : Nat) : Int) - 1 := by omega
  rw [e]
  exact Ai9 _ ha hb _ _ (by omega) (by omega) (by rw [Ahp ia (by omega), Ahp ib (by omega)])
theorem Ait (N : Nat) {a b : List Int} (ha : G7 a = true) (hb : G7 b = true) : ∀ (k i c F : Nat), i + k = max a.length b.length + 1 → k < F → c ≤ 1 →
    Ck a / 2 ^ (32 * i) + Ck b / 2 ^ (32 * i) + c = (Ck a + Ck b) / 2 ^ (32 * i) →
    Af.plus.L0 N F a b (c : Int) (i : Int) (digits i (Ck a + Ck b)) = some (.ints (.own 100005 tW) .u32 (Js a b)) := by
  obtain ⟨la, ia⟩ := Ko ha
  obtain ⟨lb, ib⟩ := Ko hb
  intro k
  induction k with
  | zero =>
    intro i c F hi hF hc h
    obtain ⟨F, rfl⟩ : ∃ G, F = G + 1 := ⟨F - 1, by omega⟩
    have t0 : decide ((i : Int) ≤ max (a.length : Int) (b.length : Int)) = false := As7 (by omega)
    rw [Af.plus.As, D6, t0, As6]
    unfold Js
    rw [show i = max a.length b.length + 1 by omega]
  | succ k ih =>
    intro i c F hi hF hc h
    obtain ⟨F, rfl⟩ : ∃ G, F = G + 1 := ⟨F - 1, by omega⟩
    have t0 : decide ((i : Int) ≤ max (a.length : Int) (b.length : Int)) = true := As3 (by omega)
    have t1 : decide ((digits i (Ck a + Ck b)).length + 1 ≤ Hc) = true := As3 (by rw [Ey]; unfold Hc; omega)
    rw [Af.plus.As, D6, t0, ha, hb, t1]
    simp only [As2]
    rw [G0 ia, G0 ib]
    have ih := ih (i + 1)
    rw [Nw, Nat.mul_comm 4294967296, ← Nat.div_div_eq_div_mul, ← Nat.div_div_eq_div_mul, ← Nat.div_div_eq_div_mul, Na] at ih
    generalize Ck a / 2 ^ (32 * i) = x at *
    generalize Ck b / 2 ^ (32 * i) = y at *
    generalize (Ck a + Ck b) / 2 ^ (32 * i) = z at *
    have e1 : Bh (Bh (((x % 4294967296 : Nat) : Int) + ((y % 4294967296 : Nat) : Int)) + (c : Int)) = ((x % 4294967296 + y % 4294967296 + c : Nat) : Int) := by
      rw [Dc (x := ((x % 4294967296 : Nat) : Int) + ((y % 4294967296 : Nat) : Int)) (by omega) (by omega), Dc (by omega) (by omega)]; omega
    rw [e1, Ahi, Jo, Jp, Ks (by omega) (by omega), Dc (by omega) (by omega), Am (by omega) (by omega)]
    have e2 : (x % 4294967296 + y % 4294967296 + c) % 4294967296 = z % 4294967296 := by omega
    rw [e2]
    exact ih ((x % 4294967296 + y % 4294967296 + c) / 4294967296) F (by omega) (by omega) (by omega) (by omega)
theorem Ahb {i : Nat} {e : TypeId} {k : IntKind} {l : List Int} : Wk [i] (.ints (.own i e) k l) (.ints .arg k l) := .dropA i e k l (List.mem_singleton.2 rfl)
theorem Af.plus.known : Af.plus.Kn := Af.plus.Ac (.cons Af.Ji.known .nil) fun a b hp => by
  obtain ⟨ha, hb⟩ := Ad.1 hp
  refine ⟨max a.length b.length + 2, .ints (.own 100005 tW) .u32 (Js a b), [100005], ?_, Ahb⟩
  rw [Af.plus.ev]
  exact Ait _ ha hb (max a.length b.length + 1) 0 0 _ (by omega) (by omega) (by omega) (by simp)
theorem Aft (N : Nat) {a b : List Int} (ha : G7 a = true) (hb : G7 b = true) : ∀ (k i w F : Nat), i + k = a.length → k < F → w ≤ 1 →
    Ck a / 2 ^ (32 * i) = Ck b / 2 ^ (32 * i) + (Ck a - Ck b) / 2 ^ (32 * i) + w →
    Af.minus.L0 N F a b (w : Int) (i : Int) (digits i (Ck a - Ck b)) = some (.ints (.own 100005 tW) .u32 (Gx a b)) := by
  obtain ⟨la, ia⟩ := Ko ha
  obtain ⟨lb, ib⟩ := Ko hb
  intro k
  induction k with
  | zero =>
    intro i c F hi hF hc h
    obtain ⟨F, rfl⟩ : ∃ G, F = G + 1 := ⟨F - 1, by omega⟩
    have t0 : decide ((i : Int) < (a.length : Int)) = false := As7 (by omega)
    rw [Af.minus.As, Ar, t0, As6]
    unfold Gx
    rw [show i = a.length by omega]
  | succ k ih =>
    intro i w F hi hF hc h
    obtain ⟨F, rfl⟩ : ∃ G, F = G + 1 := ⟨F - 1, by omega⟩
    have t0 : decide ((i : Int) < (a.length : Int)) = true := As3 (by omega)
    have t1 : decide ((digits i (Ck a - Ck b)).length + 1 ≤ Hc) = true := As3 (by rw [Ey]; unfold Hc; omega)
    rw [Af.minus.As, Ar, t0, ha, hb, t1]
    simp only [As2]
    rw [G0 ia, G0 ib]
    have ih := ih (i + 1)
    rw [Nw, Nat.mul_comm 4294967296, ← Nat.div_div_eq_div_mul, ← Nat.div_div_eq_div_mul, ← Nat.div_div_eq_div_mul, Na] at ih
    generalize Ck a / 2 ^ (32 * i) = x at *
    generalize Ck b / 2 ^ (32 * i) = y at *
    generalize (Ck a - Ck b) / 2 ^ (32 * i) = z at *
    have e1 : Bh (Bh (Bh ((4294967296 : Int) + ((x % 4294967296 : Nat) : Int)) - ((y % 4294967296 : Nat) : Int)) - (w : Int)) = ((4294967296 + x % 4294967296 - y % 4294967296 - w : Nat) : Int) := by
      rw [Dc (x := (4294967296 : Int) + ((x % 4294967296 : Nat) : Int)) (by omega) (by omega), Dc (x := (4294967296 : Int) + ((x % 4294967296 : Nat) : Int) - ((y % 4294967296 : Nat) : Int)) (by omega) (by omega), Dc (by omega) (by omega)]; omega
    have e2 : (4294967296 + x % 4294967296 - y % 4294967296 - w) % 4294967296 = z % 4294967296 := by omega
    have e3 : Bh ((1 : Int) - (((4294967296 + x % 4294967296 - y % 4294967296 - w) / 4294967296 : Nat) : Int)) = ((1 - (4294967296 + x % 4294967296 - y % 4294967296 - w) / 4294967296 : Nat) : Int) := by
      rw [Dc (by omega) (by omega)]; omega
    rw [e1, Ahi, Jo, Jp, Ks (by omega) (by omega), Dc (x := (((4294967296 + x % 4294967296 - y % 4294967296 - w) / 4294967296 : Nat) : Int)) (by omega) (by omega), Am (by omega) (by omega), e2, e3]
    exact ih (1 - (4294967296 + x % 4294967296 - y % 4294967296 - w) / 4294967296) F (by omega) (by omega) (by omega) (by omega)
theorem Af.minus.known : Af.minus.Kn := Af.minus.Ac (.cons Af.Ji.known .nil) fun a b hp => by
  obtain ⟨h1, hle⟩ := Ad.1 hp
  obtain ⟨ha, hb⟩ := Ad.1 h1
  have hle := Av.1 hle
  refine ⟨a.length + 1, .ints (.own 100005 tW) .u32 (Gx a b), [100005], ?_, Ahb⟩
  rw [Af.minus.ev]
  exact Aft _ ha hb a.length 0 0 _ (by omega) (by omega) (by omega) (by simp; omega)
theorem Gh (v : Int) : X0 (Ap v) := Adu _
theorem Akc {v w : Int} (h : Bg v = Bg w) : wv (Bg v) (Js (Ap v) (Ap w)) = v + w := by
  unfold wv
  rw [Aiu (Gh _) (Gh _), Ds, Ds]
  unfold Bg at h ⊢
  unfold Hh
  rw [decide_eq_decide] at h
  by_cases hv : v < 0
  · have hw := h.1 hv
    rw [As3 hv, if_pos rfl]; omega
  · have hw : ¬ w < 0 := fun k => hv (h.2 k)
    rw [As7 hv, if_neg (by decide)]; omega
theorem Agr {v w : Int} (h : Bg v ≠ Bg w) (hl : w.natAbs ≤ v.natAbs) : wv (Bg v) (Gx (Ap v) (Ap w)) = v + w := by
  unfold wv
  rw [Afv _ (Gh _), Ds, Ds]
  unfold Bg at h ⊢
  unfold Hh
  rw [ne_eq, decide_eq_decide] at h
  by_cases hv : v < 0
  · have hw : ¬ w < 0 := fun k => h ⟨fun _ => k, fun _ => hv⟩
    rw [As3 hv, if_pos rfl]; omega
  · have hw : w < 0 := by
      rcases Int.lt_or_le w 0 with k | k
      · exact k
      · exact absurd ⟨fun k' => absurd k' hv, fun k' => by omega⟩ h
    rw [As7 hv, if_neg (by decide)]; omega
theorem Af.Add.known : Af.Add.Kn := Af.Add.Ac (.cons Af.Made.known (.cons Af.H8.known (.cons Af.minus.known (.cons Af.plus.known .nil)))) fun n a m b hp => by
  obtain ⟨h1, h2⟩ := Ad.1 hp
  obtain ⟨v, rfl, rfl, hv⟩ := Iy h1
  obtain ⟨w, rfl, rfl, hw⟩ := Iy h2
  refine ⟨0, Af.Add.out [.b (Bg v), .l (Ap v), .b (Bg w), .l (Ap w)], [], ?_, Ach⟩
  have o1 : G7 (Ap v) = true := N1 (by omega)
  have o2 : G7 (Ap w) = true := N1 (by omega)
  rw [Af.Add.ev, o1, o2, As8, As2]
  show _ = some (DV.agg [.bool (Bg (wv (Bg v) (Ap v) + wv (Bg w) (Ap w))), .ints .arg .u32 (Ap (wv (Bg v) (Ap v) + wv (Bg w) (Ap w)))])
  rw [G8, G8]
  by_cases hs : Bg v = Bg w
  · have : (Bg v == Bg w) = true := by simp [hs]
    have o3 : G7 (Js (Ap v) (Ap w)) = true := Ng (by rw [Ta, Cm, Cm]; omega) (Adg _ _)
    rw [this, As2, o3, As2, Akc hs]
  · have : (Bg v == Bg w) = false := by simp [hs]
    rw [this, As6, As2, Ar, Ds, Ds, Bool.true_and, Bool.true_and]
    by_cases hl : v.natAbs < w.natAbs
    · have e : decide (U1 v.natAbs w.natAbs < 0) = true := As3 (by unfold U1; rw [if_pos hl]; decide)
      have o3 : G7 (Gx (Ap w) (Ap v)) = true := Ng (by rw [Rp, Cm]; omega) (Zv _ _)
      have o4 : leL (Ap v) (Ap w) = true := Av.2 (by rw [Ds, Ds]; omega)
      rw [e, As2, o4, As2, o3, As2, Agr (fun k => hs k.symm) (by omega), Int.add_comm]
    · have e : decide (U1 v.natAbs w.natAbs < 0) = false := As7 (by unfold U1; rw [if_neg hl]; split <;> decide)
      have o3 : G7 (Gx (Ap v) (Ap w)) = true := Ng (by rw [Rp, Cm]; omega) (Zv _ _)
      have o4 : leL (Ap w) (Ap v) = true := Av.2 (by rw [Ds, Ds]; omega)
      rw [e, As6, o4, As2, o3, As2, Agr hs (by omega)]
namespace EqRefB
theorem E3 : ∀ a : Bool, (a && true) = a := by decide
theorem Jn : ∀ a b : Bool, ((a && b) && true) = (a && b) := by decide
theorem Iw : ∀ a b : Bool, (bif a then b else false) = (a && b) := by decide
theorem Ia : ∀ a : Bool, (((!a) || (a == true)) && true) = true := by decide
theorem Gd : ∀ a : Bool, ((!(a == true)) || ((((!(a == true)) || (a == true)) && true) && true)) = true := by decide
theorem Jg : ∀ a : Bool, ((!(a == true)) || true) = true := by decide
theorem Ld : ∀ a : Bool, (((a && true) && true) && true) = a := by decide
theorem Lx : ∀ a b : Bool, ((!(a == true)) || ((((!(a == true)) || (a == true)) && true) && b)) = ((!a) || b) := by decide
theorem Pm : ∀ a b c : Bool, (bif (!(a == b)) then true else c) = ((!(a == b)) || c) := by decide
theorem Sp : ∀ a b : Bool, ((!(!(!(a == b)))) || ((!(a == b)) == false)) = true := by decide
theorem Hx : ∀ a b : Bool, ((!((!(a == b)) == false)) || ((((!((!(a == b)) == false)) || ((!(a == b)) == false)) && (((!((!(a == b)) == false)) || ((!(a == b)) == false)) && true)) && true)) = true := by decide
theorem I1 : ∀ a b : Bool, ((!((!(a == b)) == false)) || ((((!((!(a == b)) == false)) || ((!(a == b)) == false)) && true) && true)) = true := by decide
theorem J9 : ∀ a b : Bool, ((!((!(a == b)) == false)) || true) = true := by decide
def Af.Fj.A7 : List (Nat × Entry) := [(171, Af.Made.spec), (174, Af.plus.spec)]
def Af.Fj.E : Env := Bb (A5 Af.Fj.A7) (fun _ => false) (fun _ => none) (fun _ => none)
theorem Af.Fj.ev (N : Nat) (n : Bool) (a : List Int) : Bx Af.Fj.E N Tryz.f222 (An Tryz.f222) [.agg [.bool n, .ints .arg .u32 a]] = bif (G7 a && G7 a) then bif (G7 (Js a a)) then some (.agg [.bool (Bg (wv n (Js a a))), .ints .arg .u32 (Ap (wv n (Js a a)))]) else none else none :=
  Eq.trans (by kernel_rfl)
  (Cx (E3 (G7 a && G7 a)) (Cx (E3 (G7 (Js a a))) rfl rfl) rfl)
abbrev _root_.Go.Proofs.S1.Af.Fj.Kn := A3 Tryz.prog 222 Af.Fj.spec
theorem Af.Fj.Ac (hk : Ay Tryz.prog Af.Fj.A7) (h : ∀ (n : Bool) (a : List Int), Af.Fj.pre [.b n, .l a] = true → Bc Af.Fj.E Tryz.f222 [.agg [.bool n, .ints .arg .u32 a]] (Af.Fj.out [.b n, .l a])) : Af.Fj.Kn :=
  Ak (Az hk _ _ _) Tryz.func222 (by kernel_rfl) (by kernel_rfl) h
def Af.Hf.hint : Nat → Option Ba
  | 0 => some { keep := [1, 2, 3, 4], objs := [(0, 3, 100003, .ints 173 .u32 [])], boxes := [1, 2] }
  | _ => none
def Af.Hf.A7 : List (Nat × Entry) := [(171, Af.Made.spec), (221, Af.Ji.spec)]
def Af.Hf.E : Env := Bb (A5 Af.Hf.A7) (fun _ => false) Af.Hf.hint (fun _ => none)
def Af.Hf.L0 (N M : Nat) (n : Bool) (a : List Int) (p4 : Int) (p3 : List Int) : Option DV := B0 Af.Hf.E N Tryz.f173 (An Tryz.f173) [1, 1, 0, 1, 0] [] M ⟨F7 37 [(1, .ptr 1 0 0), (2, .ptr 2 0 0), (3, .oref 100003), (4, .int .i64 p4)], [(1, false, .box [.bool n, .ints .arg .u32 a]), (2, false, .box [.bool false, .nil]), (100003, false, .ints 173 .u32 p3)]⟩
theorem Af.Hf.As (N M : Nat) (n : Bool) (a : List Int) (p4 : Int) (p3 : List Int) : Af.Hf.L0 N (M + 1) n a p4 p3 = bif (A4 p4 (List.length a : Int)) then bif (G7 a) then bif (G7 a) then bif ((decide (0 ≤ p4)) && (decide (p4 < (List.length p3 : Int)))) then bif (decide ((Int.toNat p4) < (List.length p3))) then Af.Hf.L0 N M n a (Ab (p4 + (1 : Int))) (List.set p3 (Int.toNat p4) (Jl (Bh (Int.tdiv (Bh ((Bh ((Int.tmod (Gi a (Ab (p4 + (1 : Int)))) (2 : Int)) * (4294967296 : Int))) + (Gi a p4))) (2 : Int))))) else none else none else none else none else bif (G7 p3) then some (.agg [.bool (Bg (wv n p3)), .ints .arg .u32 (Ap (wv n p3))]) else none :=
  Eq.trans (by kernel_rfl)
  (Ee (Cx (E3 (G7 a)) (Cx (E3 (G7 a)) (Cx (Jn (decide (0 ≤ p4)) (decide (p4 < (List.length p3 : Int)))) (Cx (E3 (decide ((Int.toNat p4) < (List.length p3)))) rfl rfl) rfl) rfl) rfl) rfl)
theorem Af.Hf.ev (N : Nat) (n : Bool) (a : List Int) : Bx Af.Hf.E N Tryz.f173 (An Tryz.f173) [.agg [.bool n, .ints .arg .u32 a]] = bif (((decide ((0 : Int) ≤ (List.length a : Int))) && (decide ((List.length a : Int) ≤ (List.length a : Int)))) && (decide ((List.length a : Int) ≤ Hc))) then Af.Hf.L0 N N n a (0 : Int) (List.replicate (Int.toNat (List.length a : Int)) (0 : Int)) else none := by kernel_rfl
abbrev _root_.Go.Proofs.S1.Af.Hf.Kn := A3 Tryz.prog 173 Af.Hf.spec
theorem Af.Hf.Ac (hk : Ay Tryz.prog Af.Hf.A7) (h : ∀ (n : Bool) (a : List Int), Af.Hf.pre [.b n, .l a] = true → Bc Af.Hf.E Tryz.f173 [.agg [.bool n, .ints .arg .u32 a]] (Af.Hf.out [.b n, .l a])) : Af.Hf.Kn :=
  Ak (Az hk _ _ _) Tryz.func173 (by kernel_rfl) (by kernel_rfl) h
def Af.Bp.hint : Nat → Option Ba
  | 0 => some { keep := [1, 2, 4], objs := [], boxes := [2, 4] }
  | 2 => some { keep := [1, 2, 4], objs := [], boxes := [2, 4] }
  | 4 => some { keep := [1, 2, 4], objs := [], boxes := [2, 4] }
  | 6 => some { keep := [1, 2, 4], objs := [], boxes := [2, 4] }
  | _ => none
def Af.Bp.A7 : List (Nat × Entry) := [(222, Af.Fj.spec), (173, Af.Hf.spec), (171, Af.Made.spec)]
def Af.Bp.E : Env := Bb (A5 Af.Bp.A7) (fun _ => false) Af.Bp.hint (fun _ => none)
def Af.Bp.L0 (N M : Nat) (p1 : Int) (p2 : Bool) (p2_1 : List Int) : Option DV := B0 Af.Bp.E N Tryz.f178 (An Tryz.f178) [1, 0, 0] [] M ⟨F7 63 [(1, .int .i64 p1), (2, .ptr 2 0 0), (4, .ptr 4 0 0)], [(2, false, .box [.bool p2, .ints .arg .u32 p2_1]), (4, false, .box [.bool false, .nil])]⟩
def Af.Bp.L1 (N M : Nat) (p1_1 : Int) (p2_2 : Bool) (p2_3 : List Int) : Option DV := B0 Af.Bp.E N Tryz.f178 (An Tryz.f178) [1, 1, 0, 0] [] M ⟨F7 63 [(1, .int .i64 p1_1), (2, .ptr 2 0 0), (4, .ptr 4 0 0)], [(2, false, .box [.bool p2_2, .ints .arg .u32 p2_3]), (4, false, .box [.bool false, .nil])]⟩
def Af.Bp.L2 (N M : Nat) (p1_2 : Int) (p2_4 : Bool) (p2_5 : List Int) : Option DV := B0 Af.Bp.E N Tryz.f178 (An Tryz.f178) [1, 1, 1, 0, 0] [] M ⟨F7 63 [(1, .int .i64 p1_2), (2, .ptr 2 0 0), (4, .ptr 4 0 0)], [(2, false, .box [.bool p2_4, .ints .arg .u32 p2_5]), (4, false, .box [.bool false, .nil])]⟩
def Af.Bp.L3 (N M : Nat) (p1_3 : Int) (p2_6 : Bool) (p2_7 : List Int) : Option DV := B0 Af.Bp.E N Tryz.f178 (An Tryz.f178) [1, 1, 1, 1, 0, 0] [] M ⟨F7 63 [(1, .int .i64 p1_3), (2, .ptr 2 0 0), (4, .ptr 4 0 0)], [(2, false, .box [.bool p2_6, .ints .arg .u32 p2_7]), (4, false, .box [.bool false, .nil])]⟩
theorem Af.Bp.As (N M : Nat) (p1 : Int) (p2 : Bool) (p2_1 : List Int) : Af.Bp.L0 N (M + 1) p1 p2 p2_1 = bif ((D2 (32 : Int) p1) && (A4 (0 : Int) (List.length p2_1 : Int))) then bif (decide (1 + (List.length p2_1) ≤ Hc)) then bif (G7 ([(0 : Int)] ++ p2_1)) then Af.Bp.L0 N M (Ab (p1 - (32 : Int))) (Bg (wv p2 ([(0 : Int)] ++ p2_1))) (Ap (wv p2 ([(0 : Int)] ++ p2_1))) else none else none else Af.Bp.L1 N N p1 p2 p2_1 :=
  Eq.trans (by kernel_rfl)
  (Ax (Jg (D2 (32 : Int) p1)) (Ax (Gd (D2 (32 : Int) p1)) (Ax (Gd (D2 (32 : Int) p1)) (Ax (Gd (D2 (32 : Int) p1)) (Ax (Ia (D2 (32 : Int) p1)) (Cx (Iw (D2 (32 : Int) p1) (A4 (0 : Int) (List.length p2_1 : Int))) (Cx (E3 (decide (1 + (List.length p2_1) ≤ Hc))) (Cx (E3 (G7 ([(0 : Int)] ++ p2_1))) rfl rfl) rfl) rfl))))))
theorem Af.Bp.B5 (N M : Nat) (p1_1 : Int) (p2_2 : Bool) (p2_3 : List Int) : Af.Bp.L1 N (M + 1) p1_1 p2_2 p2_3 = bif ((A4 (0 : Int) p1_1) && (A4 (0 : Int) (List.length p2_3 : Int))) then bif (I3 p2_2 p2_3) then Af.Bp.L1 N M (Ab (p1_1 - (1 : Int))) (Bg (2 * wv p2_2 p2_3)) (Ap (2 * wv p2_2 p2_3)) else none else Af.Bp.L2 N N p1_1 p2_2 p2_3 :=
  Eq.trans (by kernel_rfl)
  (Ax (Jg (A4 (0 : Int) p1_1)) (Ax (Gd (A4 (0 : Int) p1_1)) (Ax (Gd (A4 (0 : Int) p1_1)) (Ax (Gd (A4 (0 : Int) p1_1)) (Ax (Ia (A4 (0 : Int) p1_1)) (Cx (Iw (A4 (0 : Int) p1_1) (A4 (0 : Int) (List.length p2_3 : Int))) rfl rfl))))))
theorem Af.Bp.G5 (N M : Nat) (p1_2 : Int) (p2_4 : Bool) (p2_5 : List Int) : Af.Bp.L2 N (M + 1) p1_2 p2_4 p2_5 = bif ((D2 p1_2 (-32 : Int)) && (A4 (0 : Int) (List.length p2_5 : Int))) then bif (decide ((1 : Int) ≤ (List.length p2_5 : Int))) then bif (G7 (List.drop 1 p2_5)) then Af.Bp.L2 N M (Ab (p1_2 + (32 : Int))) (Bg (wv p2_4 (List.drop 1 p2_5))) (Ap (wv p2_4 (List.drop 1 p2_5))) else none else none else Af.Bp.L3 N N p1_2 p2_4 p2_5 :=
  Eq.trans (by kernel_rfl)
  (Ax (Jg (D2 p1_2 (-32 : Int))) (Ax (Gd (D2 p1_2 (-32 : Int))) (Ax (Gd (D2 p1_2 (-32 : Int))) (Ax (Gd (D2 p1_2 (-32 : Int))) (Ax (Ia (D2 p1_2 (-32 : Int))) (Cx (Iw (D2 p1_2 (-32 : Int)) (A4 (0 : Int) (List.length p2_5 : Int))) (Cx (Ld (decide ((1 : Int) ≤ (List.length p2_5 : Int)))) (Cx (E3 (G7 (List.drop 1 p2_5))) rfl rfl) rfl) rfl))))))
theorem Af.Bp.Ab9 (N M : Nat) (p1_3 : Int) (p2_6 : Bool) (p2_7 : List Int) : Af.Bp.L3 N (M + 1) p1_3 p2_6 p2_7 = bif ((A4 p1_3 (0 : Int)) && (A4 (0 : Int) (List.length p2_7 : Int))) then bif (I3 p2_6 p2_7) then Af.Bp.L3 N M (Ab (p1_3 + (1 : Int))) (Bg (Kk (wv p2_6 p2_7) 1)) (Ap (Kk (wv p2_6 p2_7) 1)) else none else some (.agg [.bool p2_6, .ints .arg .u32 p2_7]) :=
  Eq.trans (by kernel_rfl)
  (Ax (Jg (A4 p1_3 (0 : Int))) (Ax (Gd (A4 p1_3 (0 : Int))) (Ax (Gd (A4 p1_3 (0 : Int))) (Ax (Gd (A4 p1_3 (0 : Int))) (Ax (Ia (A4 p1_3 (0 : Int))) (Cx (Iw (A4 p1_3 (0 : Int)) (A4 (0 : Int) (List.length p2_7 : Int))) rfl rfl))))))
theorem Af.Bp.ev (N : Nat) (n : Bool) (a : List Int) (k : Int) : Bx Af.Bp.E N Tryz.f178 (An Tryz.f178) [.agg [.bool n, .ints .arg .u32 a], .int .i64 k] =
  Af.Bp.L0 N N k n a := by kernel_rfl
abbrev _root_.Go.Proofs.S1.Af.Bp.Kn := A3 Tryz.prog 178 Af.Bp.spec
theorem Af.Bp.Ac (hk : Ay Tryz.prog Af.Bp.A7) (h : ∀ (n : Bool) (a : List Int) (k : Int), Af.Bp.pre [.b n, .l a, .i k] = true → Bc Af.Bp.E Tryz.f178 [.agg [.bool n, .ints .arg .u32 a], .int .i64 k] (Af.Bp.out [.b n, .l a, .i k])) : Af.Bp.Kn :=
  Ak (Az hk _ _ _) Tryz.func178 (by kernel_rfl) (by kernel_rfl) h
def Af.Qo.hint : Nat → Option Ba
  | 0 => some { keep := [3, 4], objs := [], boxes := [] }
  | _ => none
def Af.Qo.A7 : List (Nat × Entry) := []
def Af.Qo.E : Env := Bb (A5 Af.Qo.A7) (fun _ => false) Af.Qo.hint (fun _ => none)
def Af.Qo.L0 (N M : Nat) (p3 p4 : Int) : Option DV := B0 Af.Qo.E N Tryz.f223 (An Tryz.f223) [1, 1, 1, 0, 1, 0] [] M ⟨F7 29 [(3, .int .i64 p3), (4, .int .u32 p4)], []⟩
theorem Af.Qo.As (N M : Nat) (p3 p4 : Int) : Af.Qo.L0 N (M + 1) p3 p4 = bif (A4 (0 : Int) p4) then Af.Qo.L0 N M (Ab (p3 + (1 : Int))) (Jl (Int.tdiv p4 (2 : Int))) else some (.int .i64 p3) := by kernel_rfl
theorem Af.Qo.ev (N : Nat) (n : Bool) (a : List Int) : Bx Af.Qo.E N Tryz.f223 (An Tryz.f223) [.agg [.bool n, .ints .arg .u32 a]] = bif ((List.length a : Int) == (0 : Int)) then some (.int .i64 0) else bif ((decide (0 ≤ (Ab ((List.length a : Int) - (1 : Int))))) && (decide ((Ab ((List.length a : Int) - (1 : Int))) < (List.length a : Int)))) then Af.Qo.L0 N N (Ab ((32 : Int) * (Ab ((List.length a : Int) - (1 : Int))))) (List.getD a (Int.toNat (Ab ((List.length a : Int) - (1 : Int)))) 0) else none := by kernel_rfl
abbrev _root_.Go.Proofs.S1.Af.Qo.Kn := A3 Tryz.prog 223 Af.Qo.spec
theorem Af.Qo.Ac (hk : Ay Tryz.prog Af.Qo.A7) (h : ∀ (n : Bool) (a : List Int), Af.Qo.pre [.b n, .l a] = true → Bc Af.Qo.E Tryz.f223 [.agg [.bool n, .ints .arg .u32 a]] (Af.Qo.out [.b n, .l a])) : Af.Qo.Kn :=
  Ak (Az hk _ _ _) Tryz.func223 (by kernel_rfl) (by kernel_rfl) h
def Af.Wc.A7 : List (Nat × Entry) := []
def Af.Wc.E : Env := Bb (A5 Af.Wc.A7) (fun _ => false) (fun _ => none) (fun _ => none)
theorem Af.Wc.ev (N : Nat) (n : Bool) (a : List Int) : Bx Af.Wc.E N Tryz.f172 (An Tryz.f172) [.agg [.bool n, .ints .arg .u32 a]] = bif ((!(A4 (0 : Int) (List.length a : Int))) || (decide ((0 : Int) < (List.length a : Int)))) then some (.bool (bif (A4 (0 : Int) (List.length a : Int)) then ((Int.tmod (List.getD a 0 0) (2 : Int)) == (1 : Int)) else false)) else none :=
  Eq.trans (by kernel_rfl)
  (Ax (Jg (A4 (0 : Int) (List.length a : Int))) (Ax (Gd (A4 (0 : Int) (List.length a : Int))) (Cx (Lx (A4 (0 : Int) (List.length a : Int)) (decide ((0 : Int) < (List.length a : Int)))) (Ax (Gd (A4 (0 : Int) (List.length a : Int))) (Ax (Gd (A4 (0 : Int) (List.length a : Int))) (Ax (Gd (A4 (0 : Int) (List.length a : Int))) (Ax (Ia (A4 (0 : Int) (List.length a : Int))) rfl)))) rfl)))
abbrev _root_.Go.Proofs.S1.Af.Wc.Kn := A3 Tryz.prog 172 Af.Wc.spec
theorem Af.Wc.Ac (hk : Ay Tryz.prog Af.Wc.A7) (h : ∀ (n : Bool) (a : List Int), Af.Wc.pre [.b n, .l a] = true → Bc Af.Wc.E Tryz.f172 [.agg [.bool n, .ints .arg .u32 a]] (Af.Wc.out [.b n, .l a])) : Af.Wc.Kn :=
  Ak (Az hk _ _ _) Tryz.func172 (by kernel_rfl) (by kernel_rfl) h
end EqRefB
open EqRefB
theorem Af.Fj.known : Af.Fj.Kn := Af.Fj.Ac (.cons Af.Made.known (.cons Af.plus.known .nil)) fun n a hp => by
  obtain ⟨v, rfl, rfl, hv⟩ := Iy hp
  refine ⟨0, Af.Fj.out [.b (Bg v), .l (Ap v)], [], ?_, Ach⟩
  have o1 : G7 (Ap v) = true := N1 (by omega)
  have o3 : G7 (Js (Ap v) (Ap v)) = true := Ng (by rw [Ta, Cm]; omega) (Adg _ _)
  rw [Af.Fj.ev, o1, o3, As8, As2, As2, Akc rfl]
  show _ = some (DV.agg [.bool (Bg (2 * wv (Bg v) (Ap v))), .ints .arg .u32 (Ap (2 * wv (Bg v) (Ap v)))])
  rw [G8, Int.two_mul]
theorem Aqz (l : List Int) (y x : Int) (r : List Int) : ∀ i, i = l.length → (l ++ y :: r).set i x = l ++ x :: r := by
  induction l with
  | nil => intro i h; subst h; rfl
  | cons z l ih =>
    intro i h
    obtain ⟨j, rfl⟩ : ∃ j, i = j + 1 := ⟨i - 1, by rw [List.length_cons] at h; omega⟩
    show z :: (l ++ y :: r).set j x = z :: (l ++ x :: r)
    rw [ih j (by rw [List.length_cons] at h; omega)]
theorem Ajk (N : Nat) {v : Int} (hv : Dg v.natAbs < 268435456) : ∀ (k i F : Nat), i + k = Dg v.natAbs → k < F →
    Af.Hf.L0 N F (Bg v) (Ap v) (i : Int) (digits i (v.natAbs / 2) ++ List.replicate k 0) = some (.agg [.bool (Bg (Kk v 1)), .ints .arg .u32 (Ap (Kk v 1))]) := by
  have o1 : G7 (Ap v) = true := N1 (by omega)
  have ia := Gh v
  intro k
  induction k with
  | zero =>
    intro i F hi hF
    obtain ⟨F, rfl⟩ : ∃ G, F = G + 1 := ⟨F - 1, by omega⟩
    have t0 : decide ((i : Int) < ((Ap v).length : Int)) = false := As7 (by rw [Cm]; omega)
    rw [List.replicate_zero, List.append_nil, Af.Hf.As, Ar, t0, As6]
    have o3 : G7 (digits i (v.natAbs / 2)) = true := Ng (by rw [Ey]; omega) (Od _ _)
    have e : wv (Bg v) (digits i (v.natAbs / 2)) = Kk v 1 := by
      unfold wv Kk
      rw [Kt, Atf, Nat.pow_one]
      have := Lr v.natAbs
      rw [show i = Dg v.natAbs by omega]
      exact Nat.lt_of_le_of_lt (Nat.div_le_self _ _) this
    rw [o3, As2, e]
  | succ k ih =>
    intro i F hi hF
    obtain ⟨F, rfl⟩ : ∃ G, F = G + 1 := ⟨F - 1, by omega⟩
    have hlen : (digits i (v.natAbs / 2) ++ List.replicate (k + 1) (0 : Int)).length = i + (k + 1) := by rw [List.length_append, Ey, List.length_replicate]
    have t0 : decide ((i : Int) < ((Ap v).length : Int)) = true := As3 (by rw [Cm]; omega)
    have t1 : decide ((0 : Int) ≤ (i : Int)) = true := As3 (by omega)
    have t2 : decide ((i : Int) < ((digits i (v.natAbs / 2) ++ List.replicate (k + 1) (0 : Int)).length : Int)) = true := As3 (by rw [hlen]; omega)
    have t3 : decide (i < (digits i (v.natAbs / 2) ++ List.replicate (k + 1) (0 : Int)).length) = true := As3 (by rw [hlen]; omega)
    have e0 : Ab ((i : Int) + 1) = ((i + 1 : Nat) : Int) := by rw [Am (by omega) (by omega)]; omega
    rw [Af.Hf.As, Ar, t0, o1, As4, t1, t2, t3, As8]
    simp only [As2]
    rw [e0, G0 ia, G0 ia, Ds]
    have ih := ih (i + 1) F (by omega) (by omega)
    rw [Na, Nat.div_div_eq_div_mul, Nat.mul_comm 2, ← Nat.div_div_eq_div_mul] at ih
    rw [Nw, Nat.mul_comm 4294967296, ← Nat.div_div_eq_div_mul, List.replicate_succ, Aqz _ _ _ _ i (Ey _ _).symm]
    rw [List.append_assoc] at ih
    generalize v.natAbs / 2 ^ (32 * i) = x at *
    have e1 : Int.tmod ((x / 4294967296 % 4294967296 : Nat) : Int) 2 = ((x / 4294967296 % 4294967296 % 2 : Nat) : Int) := Jo _ 2
    have e2 : Bh (Bh (((x / 4294967296 % 4294967296 % 2 : Nat) : Int) * 4294967296) + ((x % 4294967296 : Nat) : Int)) = ((x / 4294967296 % 4294967296 % 2 * 4294967296 + x % 4294967296 : Nat) : Int) := by
      rw [Dc (x := ((x / 4294967296 % 4294967296 % 2 : Nat) : Int) * 4294967296) (by omega) (by omega), Dc (by omega) (by omega)]; omega
    have e3 : Int.tdiv ((x / 4294967296 % 4294967296 % 2 * 4294967296 + x % 4294967296 : Nat) : Int) 2 = (((x / 4294967296 % 4294967296 % 2 * 4294967296 + x % 4294967296) / 2 : Nat) : Int) := Jp _ 2
    have e4 : (x / 4294967296 % 4294967296 % 2 * 4294967296 + x % 4294967296) / 2 = x / 2 % 4294967296 := by omega
    rw [e1, e2, e3, e4, Dc (by omega) (by omega), Ks (by omega) (by omega)]
    exact ih
theorem Af.Hf.known : Af.Hf.Kn := Af.Hf.Ac (.cons Af.Made.known (.cons Af.Ji.known .nil)) fun n a hp => by
  obtain ⟨v, rfl, rfl, hv⟩ := Iy hp
  refine ⟨Dg v.natAbs + 1, Af.Hf.out [.b (Bg v), .l (Ap v)], [], ?_, Ach⟩
  show _ = some (DV.agg [.bool (Bg (Kk (wv (Bg v) (Ap v)) 1)), .ints .arg .u32 (Ap (Kk (wv (Bg v) (Ap v)) 1))])
  rw [Af.Hf.ev, G8, Cm, As3 (by omega), As3 (by omega), As3 (by unfold Hc; omega), As8, As8, As2, As4]
  have h := Ajk (Dg v.natAbs + 1) hv (Dg v.natAbs) 0 (Dg v.natAbs + 1) (by omega) (by omega)
  rw [digits, List.nil_append] at h
  exact h
def Ae2 (v : Int) : Option DV := some (.agg [.bool (Bg v), .ints .arg .u32 (Ap v)])
theorem Tu (v : Int) : A4 (0 : Int) ((Ap v).length : Int) = decide (v ≠ 0) := by
  rw [Ar, Cm, decide_eq_decide]
  constructor
  · intro h e
    rw [e] at h
    exact absurd h (by decide)
  · intro h
    have := Is (n := v.natAbs) (by omega)
    omega
theorem Aqt (N : Nat) : ∀ (j F : Nat) (v : Int), j < F → j < 2000000 → Dg v.natAbs < 268435456 → Af.Bp.L3 N F (-(j : Int)) (Bg v) (Ap v) = Ae2 (Kk v j) := by
  intro j
  induction j with
  | zero =>
    intro F v hF _ hv
    obtain ⟨F, rfl⟩ : ∃ G, F = G + 1 := ⟨F - 1, by omega⟩
    rw [Af.Bp.Ab9, Ar, As7 (by omega), Bool.false_and, As6, Ac0]
    rfl
  | succ j ih =>
    intro F v hF hj hv
    obtain ⟨F, rfl⟩ : ∃ G, F = G + 1 := ⟨F - 1, by omega⟩
    rw [Af.Bp.Ab9, Ar, As3 (by omega), Bool.true_and, Tu]
    by_cases h0 : v = 0
    · rw [As7 (by omega), As6, h0, Qw]
      rfl
    · rw [As3 h0, As2, I2 hv, As2, G8, Am (by omega) (by omega)]
      have e : -((j + 1 : Nat) : Int) + 1 = -(j : Int) := by omega
      have hl : Dg (Kk v 1).natAbs < 268435456 := by
        rw [Lk]
        exact Nat.lt_of_le_of_lt (L7 (Nat.div_le_self _ _)) hv
      rw [e, ih F (Kk v 1) (by omega) (by omega) hl, Aa1, Nat.add_comm]
theorem Agq (v : Int) : wv (Bg v) ((Ap v).drop 1) = Kk v 32 := by
  unfold wv Kk
  rw [Ah6 (Gh v), Ds, two32]
theorem Aqu (N : Nat) : ∀ (F j : Nat) (v : Int), j < F → j < N → j < 2000000 → Dg v.natAbs < 268435456 → Af.Bp.L2 N F (-(j : Int)) (Bg v) (Ap v) = Ae2 (Kk v j) := by
  intro F
  induction F with
  | zero => intro j v h; omega
  | succ F ih =>
    intro j v hF hN hj hv
    rw [Af.Bp.G5, D6, Tu]
    by_cases hc : 32 ≤ j ∧ v ≠ 0
    · have o3 : G7 ((Ap v).drop 1) = true := Ng (by rw [List.length_drop, Cm]; omega) (Ad4 (Gh v))
      have t1 : decide ((1 : Int) ≤ ((Ap v).length : Int)) = true := As3 (by
        rw [Cm]
        have := Is (n := v.natAbs) (by omega)
        omega)
      have hl : Dg (Kk v 32).natAbs < 268435456 := by
        rw [Lk]
        exact Nat.lt_of_le_of_lt (L7 (Nat.div_le_self _ _)) hv
      rw [As3 (by omega), As3 hc.2, As8, As2, t1, As2, o3, As2, Agq, Am (by omega) (by omega)]
      have e : -(j : Int) + 32 = -((j - 32 : Nat) : Int) := by omega
      rw [e, ih (j - 32) (Kk v 32) (by omega) (by omega) (by omega) hl, Aa1]
      congr 2
      omega
    · have : (decide (-(j : Int) ≤ -32) && decide (v ≠ 0)) = false := by
        rw [Bool.and_eq_false_iff, Atl, Atl]
        omega
      rw [this, As6]
      exact Aqt N j N v hN hj hv
theorem U9 (N F : Nat) {k : Int} (hk : 0 ≤ k) (hN : 0 < N) (v : Int) : Af.Bp.L2 N (F + 1) k (Bg v) (Ap v) = Ae2 v := by
  obtain ⟨M, rfl⟩ : ∃ M, N = M + 1 := ⟨N - 1, by omega⟩
  rw [Af.Bp.G5, D6, As7 (by omega), Bool.false_and, As6, Af.Bp.Ab9, Ar, As7 (by omega), Bool.false_and, As6]
  rfl
theorem Aqv (N : Nat) (hN : 0 < N) : ∀ (j F : Nat) (v : Int), j < F → j < 2000000 → Dg v.natAbs + j < 268435456 → Af.Bp.L1 N F (j : Int) (Bg v) (Ap v) = Ae2 (v * ((2 ^ j : Nat) : Int)) := by
  obtain ⟨M, rfl⟩ : ∃ M, N = M + 1 := ⟨N - 1, by omega⟩
  intro j
  induction j with
  | zero =>
    intro F v hF _ hv
    obtain ⟨F, rfl⟩ : ∃ G, F = G + 1 := ⟨F - 1, by omega⟩
    rw [Af.Bp.B5, Ar, As7 (by omega), Bool.false_and, As6, U9 _ _ (by omega) (by omega), Nat.pow_zero]
    congr 1
    omega
  | succ j ih =>
    intro F v hF hj hv
    obtain ⟨F, rfl⟩ : ∃ G, F = G + 1 := ⟨F - 1, by omega⟩
    rw [Af.Bp.B5, Ar, As3 (by omega), Bool.true_and, Tu]
    by_cases h0 : v = 0
    · rw [As7 (by omega), As6, h0, Int.zero_mul, U9 _ _ (by omega) (by omega)]
    · have hl := Ama v.natAbs
      have e2 : (2 * v).natAbs = 2 * v.natAbs := by omega
      have e : ((j + 1 : Nat) : Int) - 1 = (j : Int) := by omega
      rw [As3 h0, As2, I2 (by omega), As2, G8, Am (by omega) (by omega), e, ih F (2 * v) (by omega) (by omega) (by rw [e2]; omega)]
      congr 1
      rw [Nat.pow_succ, Atn, Int.mul_comm 2 v, Int.mul_assoc, Int.mul_comm ((2 ^ j : Nat) : Int)]
      rfl
theorem Arx (v : Int) : wv (Bg v) ([(0 : Int)] ++ Ap v) = v * ((2 ^ 32 : Nat) : Int) := by
  have e : Ck ([(0 : Int)] ++ Ap v) = 4294967296 * v.natAbs := by
    show Ck (0 :: Ap v) = _
    rw [Ck, Ds]
    exact Nat.zero_add _
  unfold wv
  rw [e, two32]
  by_cases h : v < 0
  · rw [S3 h]; omega
  · rw [S2 h]; omega
theorem Aqw (N : Nat) : ∀ (F j : Nat) (v : Int), j < F → j < N → j < 2000000 → Dg v.natAbs + j < 268435456 → Af.Bp.L0 N F (j : Int) (Bg v) (Ap v) = Ae2 (v * ((2 ^ j : Nat) : Int)) := by
  intro F
  induction F with
  | zero => intro j v h; omega
  | succ F ih =>
    intro j v hF hN hj hv
    rw [Af.Bp.As, D6, Tu]
    by_cases hc : 32 ≤ j ∧ v ≠ 0
    · have o3 : G7 ([(0 : Int)] ++ Ap v) = true := Ng (by rw [List.length_append, Cm]; show 1 + _ < _; omega) (Amk (Gh v))
      have t1 : decide (1 + (Ap v).length ≤ Hc) = true := As3 (by rw [Cm]; unfold Hc; omega)
      have e2 : (v * ((2 ^ 32 : Nat) : Int)).natAbs = v.natAbs * 4294967296 := by rw [Int.natAbs_mul, Int.natAbs_natCast, two32]
      have hl := Ao1 v.natAbs
      rw [As3 (by omega), As3 hc.2, As8, As2, t1, As2, o3, As2, Arx, Am (by omega) (by omega)]
      have e : (j : Int) - 32 = ((j - 32 : Nat) : Int) := by omega
      rw [e, ih (j - 32) _ (by omega) (by omega) (by omega) (by rw [e2]; omega)]
      have e3 : 2 ^ j = 2 ^ 32 * 2 ^ (j - 32) := by rw [← Nat.pow_add]; congr 1; omega
      rw [e3, Atn, Int.mul_assoc]
    · have : (decide ((32 : Int) ≤ (j : Int)) && decide (v ≠ 0)) = false := by
        rw [Bool.and_eq_false_iff, Atl, Atl]
        omega
      rw [this, As6]
      exact Aqv N (by omega) j N v hN hj hv
theorem Afc (N j : Nat) (v : Int) (hj : 0 < j) (hN : j < N) (hj2 : j < 2000000) (hv : Dg v.natAbs < 268435456) : Af.Bp.L0 N N (-(j : Int)) (Bg v) (Ap v) = Ae2 (Kk v j) := by
  obtain ⟨M, rfl⟩ : ∃ M, N = M + 1 := ⟨N - 1, by omega⟩
  rw [Af.Bp.As, D6, As7 (by omega), Bool.false_and, As6, Af.Bp.B5, Ar, As7 (by omega), Bool.false_and, As6]
  exact Aqu _ _ j v hN hN hj2 hv
theorem Af.Bp.known : Af.Bp.Kn := Af.Bp.Ac (.cons Af.Fj.known (.cons Af.Hf.known (.cons Af.Made.known .nil))) fun n a k hp => by
  obtain ⟨h1, h2⟩ := Ad.1 hp
  obtain ⟨v, rfl, rfl, hv⟩ := Oz h1
  have h2 := Av.1 h2
  refine ⟨k.natAbs + 1, Af.Bp.out [.b (Bg v), .l (Ap v), .i k], [], ?_, Ach⟩
  show _ = some (DV.agg [.bool (Bg (Gc (wv (Bg v) (Ap v)) k)), .ints .arg .u32 (Ap (Gc (wv (Bg v) (Ap v)) k))])
  rw [Af.Bp.ev, G8]
  unfold Gc
  by_cases h : 0 ≤ k
  · obtain ⟨j, rfl⟩ : ∃ j : Nat, k = j := ⟨k.toNat, by omega⟩
    rw [if_pos h, As4, Int.natAbs_natCast]
    exact Aqw _ _ j v (by omega) (by omega) (by omega) (by omega)
  · obtain ⟨j, rfl⟩ : ∃ j : Nat, k = -(j : Int) := ⟨(-k).toNat, by omega⟩
    have e : (-(-(j : Int))).toNat = j := by omega
    rw [if_neg h, e, Int.natAbs_neg, Int.natAbs_natCast]
    exact Afc _ j v (by omega) (by omega) (by omega) (by omega)
open EqRefB
theorem Ajg {t : Nat} (h : 2 ≤ t) : (t / 2).log2 + 1 = t.log2 := by
  have := Ads (n := t) (m := 1) (by omega)
  rw [Nat.pow_one] at this
  exact this
theorem Al9 (N : Nat) : ∀ (F : Nat) (t : Nat) (p : Int), t < 2 ^ 32 → 0 < t → t.log2 + 1 < F → -1000 ≤ p → p + t.log2 < 4611686018427387904 →
    Af.Qo.L0 N F p (t : Int) = some (.int .i64 (p + t.log2 + 1)) := by
  intro F
  induction F with
  | zero => intro t p _ _ h; omega
  | succ F ih =>
    intro t p ht h0 hF hp1 hp2
    have e2 : Int.tdiv (t : Int) 2 = ((t / 2 : Nat) : Int) := Jp t 2
    rw [two32] at ht
    rw [Af.Qo.As, Ar, As3 (by omega), As2, e2, Ks (by omega) (by omega), Am (by omega) (by omega)]
    by_cases h1 : t = 1
    · subst h1
      obtain ⟨G, rfl⟩ : ∃ G, F = G + 1 := ⟨F - 1, by omega⟩
      rw [Af.Qo.As, Ar, As7 (by decide), As6]
      have : (1 : Nat).log2 = 0 := by decide
      rw [this]
      congr 2
      omega
    · have hl := Ajg (t := t) (by omega)
      rw [ih (t / 2) (p + 1) (by rw [two32]; omega) (by omega) (by omega) (by omega) (by omega)]
      congr 2
      omega
theorem Af.Qo.known : Af.Qo.Kn := Af.Qo.Ac .nil fun n a hp => by
  obtain ⟨v, rfl, rfl, hv⟩ := Iy hp
  refine ⟨40, Af.Qo.out [.b (Bg v), .l (Ap v)], [], ?_, .int⟩
  show _ = some (DV.int .i64 (Xr (wv (Bg v) (Ap v))))
  rw [Af.Qo.ev, G8, Cm]
  unfold Xr
  by_cases h0 : v = 0
  · rw [if_pos h0, h0]; rfl
  · have hn : v.natAbs ≠ 0 := by omega
    have hl := Is hn
    have e0 : ((Dg v.natAbs : Int) == 0) = false := by simp only [beq_eq_false_iff_ne, ne_eq]; omega
    have e1 : (Dg v.natAbs : Int) - 1 = ((Dg v.natAbs - 1 : Nat) : Int) := by omega
    have hlen : Dg v.natAbs = v.natAbs.log2 / 32 + 1 := by unfold Dg; rw [if_neg hn]
    have hge : 2 ^ (32 * (Dg v.natAbs - 1)) ≤ v.natAbs := Nat.le_trans (Ath (by decide) (by omega)) (Nat.log2_self_le hn)
    have hq : v.natAbs / 2 ^ (32 * (Dg v.natAbs - 1)) < 2 ^ 32 := by
      rw [Nat.div_lt_iff_lt_mul (Ch _), ← Nat.pow_add]
      have := Lr v.natAbs
      have e : 32 + 32 * (Dg v.natAbs - 1) = 32 * Dg v.natAbs := by omega
      rw [e]; exact this
    have hlog := Ads hge
    have hg := Q6 (Gh v) (Dg v.natAbs - 1)
    have hq' := hq
    rw [two32] at hq'
    rw [Ds, Atf hq'] at hg
    have hpos := Nat.div_pos hge (Ch _)
    have h32 : (v.natAbs / 2 ^ (32 * (Dg v.natAbs - 1))).log2 < 32 := (Nat.log2_lt (by omega)).2 hq
    rw [if_neg h0, e0, As6, Am (by omega) (by omega), e1, As3 (by omega), As3 (by omega), As8, As2, As4, hg, Am (by omega) (by omega)]
    rw [Al9 40 40 _ _ hq hpos (by omega) (by omega) (by omega)]
    congr 2
    omega
theorem Af.Wc.known : Af.Wc.Kn := Af.Wc.Ac .nil fun n a hp => by
  obtain ⟨v, rfl, rfl, hv⟩ := Iy hp
  refine ⟨0, Af.Wc.out [.b (Bg v), .l (Ap v)], [], ?_, .bool⟩
  show _ = some (DV.bool (Aix (wv (Bg v) (Ap v))))
  rw [Af.Wc.ev, G8, Tu]
  have hg := Q6 (Gh v) 0
  rw [Ds, Nat.mul_zero, Nat.pow_zero, Nat.div_one] at hg
  have e2 : Int.tmod ((v.natAbs % 4294967296 : Nat) : Int) 2 = ((v.natAbs % 4294967296 % 2 : Nat) : Int) := Jo _ 2
  unfold Aix
  by_cases h0 : v = 0
  · rw [h0]; rfl
  · have hl := Is (n := v.natAbs) (by omega)
    rw [hg, e2, As3 h0, Cm, As3 (by omega), Bool.or_true, As2, As2]
    congr 2
    rw [Ati]
    simp only [beq_iff_eq, As9]
    omega
namespace EqRefC
theorem E3 : ∀ a : Bool, (a && true) = a := by decide
theorem Jn : ∀ a : Bool, (((a && true) && true) && true) = a := by decide
theorem Iw : ∀ a : Bool, (((!a) || (a == true)) && true) = true := by decide
theorem Ia : ∀ a b : Bool, ((!(a == true)) || ((((!(a == true)) || (a == true)) && (((!(a == true)) || (a == true)) && true)) && b)) = ((!a) || b) := by decide
theorem Gd : ∀ a : Bool, ((!(a == true)) || ((((!(a == true)) || (a == true)) && true) && true)) = true := by decide
theorem Jg : ∀ a : Bool, ((!(a == true)) || true) = true := by decide
def Aw.Of.hint : Nat → Option Ba
  | 0 => some { keep := [1, 2, 4], objs := [], boxes := [2, 4] }
  | 2 => some { keep := [1, 2, 4], objs := [], boxes := [2, 4] }
  | _ => none
def Aw.Of.A7 : List (Nat × Entry) := [(173, Af.Hf.spec), (171, Af.Made.spec), (172, Af.Wc.spec)]
def Aw.Of.E : Env := Bb (A5 Aw.Of.A7) (fun _ => false) Aw.Of.hint (fun _ => none)
def Aw.Of.L0 (N M : Nat) (p1 : Int) (p2 : Bool) (p2_1 : List Int) : Option DV := B0 Aw.Of.E N Tryz.f109 (An Tryz.f109) [1, 1, 0, 0] [] M ⟨F7 33 [(1, .int .i64 p1), (2, .ptr 2 0 0), (4, .ptr 4 0 0)], [(2, false, .box [.bool p2, .ints .arg .u32 p2_1]), (4, false, .box [.bool false, .nil, .int .i64 0])]⟩
def Aw.Of.L1 (N M : Nat) (p1_1 : Int) (p2_2 : Bool) (p2_3 : List Int) : Option DV := B0 Aw.Of.E N Tryz.f109 (An Tryz.f109) [1, 1, 1, 0, 0] [] M ⟨F7 33 [(1, .int .i64 p1_1), (2, .ptr 2 0 0), (4, .ptr 4 0 0)], [(2, false, .box [.bool p2_2, .ints .arg .u32 p2_3]), (4, false, .box [.bool false, .nil, .int .i64 0])]⟩
theorem Aw.Of.As (N M : Nat) (p1 : Int) (p2 : Bool) (p2_1 : List Int) : Aw.Of.L0 N (M + 1) p1 p2 p2_1 = bif (decide ((0 : Int) < (List.length p2_1 : Int))) then bif ((List.getD p2_1 0 0) == (0 : Int)) then bif (decide ((1 : Int) ≤ (List.length p2_1 : Int))) then bif (G7 (List.drop 1 p2_1)) then Aw.Of.L0 N M (Ab (p1 + (32 : Int))) (Bg (wv p2 (List.drop 1 p2_1))) (Ap (wv p2 (List.drop 1 p2_1))) else none else none else Aw.Of.L1 N N p1 p2 p2_1 else none :=
  Eq.trans (by kernel_rfl)
  (Ee (Ee (Cx (Jn (decide ((1 : Int) ≤ (List.length p2_1 : Int)))) (Cx (E3 (G7 (List.drop 1 p2_1))) rfl rfl) rfl) rfl) rfl)
theorem Aw.Of.B5 (N M : Nat) (p1_1 : Int) (p2_2 : Bool) (p2_3 : List Int) : Aw.Of.L1 N (M + 1) p1_1 p2_2 p2_3 = bif (I3 p2_2 p2_3) then bif (!(Aix (wv p2_2 p2_3))) then bif (I3 p2_2 p2_3) then Aw.Of.L1 N M (Ab (p1_1 + (1 : Int))) (Bg (Kk (wv p2_2 p2_3) 1)) (Ap (Kk (wv p2_2 p2_3) 1)) else none else some (.agg [.bool p2_2, .ints .arg .u32 p2_3, .int .i64 p1_1]) else none := by kernel_rfl
theorem Aw.Of.ev (N : Nat) (n : Bool) (a : List Int) (e : Int) : Bx Aw.Of.E N Tryz.f109 (An Tryz.f109) [.agg [.bool n, .ints .arg .u32 a], .int .i64 e] = bif ((List.length a : Int) == (0 : Int)) then some (.agg [.bool false, .nil, .int .i64 0]) else Aw.Of.L0 N N e n a := by kernel_rfl
abbrev _root_.Go.Proofs.S1.Aw.Of.Kn := A3 Tryz.prog 109 Aw.Of.spec
theorem Aw.Of.Ac (hk : Ay Tryz.prog Aw.Of.A7) (h : ∀ (n : Bool) (a : List Int) (e : Int), Aw.Of.pre [.b n, .l a, .i e] = true → Bc Aw.Of.E Tryz.f109 [.agg [.bool n, .ints .arg .u32 a], .int .i64 e] (Aw.Of.out [.b n, .l a, .i e])) : Aw.Of.Kn :=
  Ak (Az hk _ _ _) Tryz.func109 (by kernel_rfl) (by kernel_rfl) h
def Aw.Neg.A7 : List (Nat × Entry) := [(143, Af.Neg.spec)]
def Aw.Neg.E : Env := Bb (A5 Aw.Neg.A7) (fun _ => false) (fun _ => none) (fun _ => none)
theorem Aw.Neg.ev (N : Nat) (n : Bool) (a : List Int) (e : Int) : Bx Aw.Neg.E N Tryz.f170 (An Tryz.f170) [.agg [.bool n, .ints .arg .u32 a, .int .i64 e]] = bif (I3 n a) then some (.agg [.bool (Bg (- wv n a)), .ints .arg .u32 (Ap (- wv n a)), .int .i64 e]) else none :=
  Eq.trans (by kernel_rfl)
  (Cx (E3 (I3 n a)) rfl rfl)
abbrev _root_.Go.Proofs.S1.Aw.Neg.Kn := A3 Tryz.prog 170 Aw.Neg.spec
theorem Aw.Neg.Ac (hk : Ay Tryz.prog Aw.Neg.A7) (h : ∀ (n : Bool) (a : List Int) (e : Int), Aw.Neg.pre [.b n, .l a, .i e] = true → Bc Aw.Neg.E Tryz.f170 [.agg [.bool n, .ints .arg .u32 a, .int .i64 e]] (Aw.Neg.out [.b n, .l a, .i e])) : Aw.Neg.Kn :=
  Ak (Az hk _ _ _) Tryz.func170 (by kernel_rfl) (by kernel_rfl) h
def Aw.Wd.A7 : List (Nat × Entry) := []
def Aw.Wd.E : Env := Bb (A5 Aw.Wd.A7) (fun _ => false) (fun _ => none) (fun _ => none)
theorem Aw.Wd.ev (N : Nat) (n : Bool) (a : List Int) (e : Int) (m : Bool) (b : List Int) (f : Int) : Bx Aw.Wd.E N Tryz.f111 (An Tryz.f111) [.agg [.bool n, .ints .arg .u32 a, .int .i64 e], .agg [.bool m, .ints .arg .u32 b, .int .i64 f]] = bif ((List.length a : Int) == (0 : Int)) then some (.int .i64 f) else bif ((List.length b : Int) == (0 : Int)) then some (.int .i64 e) else some (.int .i64 (min e f)) := by kernel_rfl
abbrev _root_.Go.Proofs.S1.Aw.Wd.Kn := A3 Tryz.prog 111 Aw.Wd.spec
theorem Aw.Wd.Ac (hk : Ay Tryz.prog Aw.Wd.A7) (h : ∀ (n : Bool) (a : List Int) (e : Int) (m : Bool) (b : List Int) (f : Int), Aw.Wd.pre [.b n, .l a, .i e, .b m, .l b, .i f] = true → Bc Aw.Wd.E Tryz.f111 [.agg [.bool n, .ints .arg .u32 a, .int .i64 e], .agg [.bool m, .ints .arg .u32 b, .int .i64 f]] (Aw.Wd.out [.b n, .l a, .i e, .b m, .l b, .i f])) : Aw.Wd.Kn :=
  Ak (Az hk _ _ _) Tryz.func111 (by kernel_rfl) (by kernel_rfl) h
def Aw.Level.A7 : List (Nat × Entry) := [(178, Af.Bp.spec)]
def Aw.Level.E : Env := Bb (A5 Aw.Level.A7) (fun _ => false) (fun _ => none) (fun _ => none)
theorem Aw.Level.ev (N : Nat) (n : Bool) (a : List Int) (e f : Int) : Bx Aw.Level.E N Tryz.f113 (An Tryz.f113) [.agg [.bool n, .ints .arg .u32 a, .int .i64 e], .int .i64 f] = bif ((List.length a : Int) == (0 : Int)) then some (.agg [.bool n, .ints .arg .u32 a]) else bif (V4 n a && Aq5 (Ab (e - f))) then some (.agg [.bool (Bg (Gc (wv n a) (Ab (e - f)))), .ints .arg .u32 (Ap (Gc (wv n a) (Ab (e - f))))]) else none := by kernel_rfl
abbrev _root_.Go.Proofs.S1.Aw.Level.Kn := A3 Tryz.prog 113 Aw.Level.spec
theorem Aw.Level.Ac (hk : Ay Tryz.prog Aw.Level.A7) (h : ∀ (n : Bool) (a : List Int) (e f : Int), Aw.Level.pre [.b n, .l a, .i e, .i f] = true → Bc Aw.Level.E Tryz.f113 [.agg [.bool n, .ints .arg .u32 a, .int .i64 e], .int .i64 f] (Aw.Level.out [.b n, .l a, .i e, .i f])) : Aw.Level.Kn :=
  Ak (Az hk _ _ _) Tryz.func113 (by kernel_rfl) (by kernel_rfl) h
def Aw.Add.A7 : List (Nat × Entry) := [(112, Af.Add.spec), (113, Aw.Level.spec), (111, Aw.Wd.spec), (109, Aw.Of.spec)]
def Aw.Add.E : Env := Bb (A5 Aw.Add.A7) (fun _ => false) (fun _ => none) (fun _ => none)
theorem Aw.Add.ev (N : Nat) (n : Bool) (a : List Int) (e : Int) (m : Bool) (b : List Int) (f : Int) : Bx Aw.Add.E N Tryz.f42 (An Tryz.f42) [.agg [.bool n, .ints .arg .u32 a, .int .i64 e], .agg [.bool m, .ints .arg .u32 b, .int .i64 f]] = bif (I3 n a && I3 m b) then bif (V4 n a && Adj (wv n a) e (Cu (wv n a) e (wv m b) f)) then bif (V4 m b && Adj (wv m b) f (Cu (wv n a) e (wv m b) f)) then bif (I3 (Bg (Gc (wv n a) (e - (Cu (wv n a) e (wv m b) f)))) (Ap (Gc (wv n a) (e - (Cu (wv n a) e (wv m b) f)))) && I3 (Bg (Gc (wv m b) (f - (Cu (wv n a) e (wv m b) f)))) (Ap (Gc (wv m b) (f - (Cu (wv n a) e (wv m b) f))))) then bif (I3 (Bg (wv (Bg (Gc (wv n a) (e - (Cu (wv n a) e (wv m b) f)))) (Ap (Gc (wv n a) (e - (Cu (wv n a) e (wv m b) f)))) + wv (Bg (Gc (wv m b) (f - (Cu (wv n a) e (wv m b) f)))) (Ap (Gc (wv m b) (f - (Cu (wv n a) e (wv m b) f)))))) (Ap (wv (Bg (Gc (wv n a) (e - (Cu (wv n a) e (wv m b) f)))) (Ap (Gc (wv n a) (e - (Cu (wv n a) e (wv m b) f)))) + wv (Bg (Gc (wv m b) (f - (Cu (wv n a) e (wv m b) f)))) (Ap (Gc (wv m b) (f - (Cu (wv n a) e (wv m b) f)))))) && Y0 (Cu (wv n a) e (wv m b) f)) then some (.agg [.bool (Bg (mD (wv (Bg (wv (Bg (Gc (wv n a) (e - (Cu (wv n a) e (wv m b) f)))) (Ap (Gc (wv n a) (e - (Cu (wv n a) e (wv m b) f)))) + wv (Bg (Gc (wv m b) (f - (Cu (wv n a) e (wv m b) f)))) (Ap (Gc (wv m b) (f - (Cu (wv n a) e (wv m b) f)))))) (Ap (wv (Bg (Gc (wv n a) (e - (Cu (wv n a) e (wv m b) f)))) (Ap (Gc (wv n a) (e - (Cu (wv n a) e (wv m b) f)))) + wv (Bg (Gc (wv m b) (f - (Cu (wv n a) e (wv m b) f)))) (Ap (Gc (wv m b) (f - (Cu (wv n a) e (wv m b) f))))))))), .ints .arg .u32 (Ap (mD (wv (Bg (wv (Bg (Gc (wv n a) (e - (Cu (wv n a) e (wv m b) f)))) (Ap (Gc (wv n a) (e - (Cu (wv n a) e (wv m b) f)))) + wv (Bg (Gc (wv m b) (f - (Cu (wv n a) e (wv m b) f)))) (Ap (Gc (wv m b) (f - (Cu (wv n a) e (wv m b) f)))))) (Ap (wv (Bg (Gc (wv n a) (e - (Cu (wv n a) e (wv m b) f)))) (Ap (Gc (wv n a) (e - (Cu (wv n a) e (wv m b) f)))) + wv (Bg (Gc (wv m b) (f - (Cu (wv n a) e (wv m b) f)))) (Ap (Gc (wv m b) (f - (Cu (wv n a) e (wv m b) f))))))))), .int .i64 (eD (wv (Bg (wv (Bg (Gc (wv n a) (e - (Cu (wv n a) e (wv m b) f)))) (Ap (Gc (wv n a) (e - (Cu (wv n a) e (wv m b) f)))) + wv (Bg (Gc (wv m b) (f - (Cu (wv n a) e (wv m b) f)))) (Ap (Gc (wv m b) (f - (Cu (wv n a) e (wv m b) f)))))) (Ap (wv (Bg (Gc (wv n a) (e - (Cu (wv n a) e (wv m b) f)))) (Ap (Gc (wv n a) (e - (Cu (wv n a) e (wv m b) f)))) + wv (Bg (Gc (wv m b) (f - (Cu (wv n a) e (wv m b) f)))) (Ap (Gc (wv m b) (f - (Cu (wv n a) e (wv m b) f))))))) (Cu (wv n a) e (wv m b) f))]) else none else none else none else none else none :=
  Eq.trans (by kernel_rfl)
  (Ee (Cx (E3 (V4 n a && Adj (wv n a) e (Cu (wv n a) e (wv m b) f))) (Cx (E3 (V4 m b && Adj (wv m b) f (Cu (wv n a) e (wv m b) f))) (Cx (E3 (I3 (Bg (Gc (wv n a) (e - (Cu (wv n a) e (wv m b) f)))) (Ap (Gc (wv n a) (e - (Cu (wv n a) e (wv m b) f)))) && I3 (Bg (Gc (wv m b) (f - (Cu (wv n a) e (wv m b) f)))) (Ap (Gc (wv m b) (f - (Cu (wv n a) e (wv m b) f)))))) (Cx (E3 (I3 (Bg (wv (Bg (Gc (wv n a) (e - (Cu (wv n a) e (wv m b) f)))) (Ap (Gc (wv n a) (e - (Cu (wv n a) e (wv m b) f)))) + wv (Bg (Gc (wv m b) (f - (Cu (wv n a) e (wv m b) f)))) (Ap (Gc (wv m b) (f - (Cu (wv n a) e (wv m b) f)))))) (Ap (wv (Bg (Gc (wv n a) (e - (Cu (wv n a) e (wv m b) f)))) (Ap (Gc (wv n a) (e - (Cu (wv n a) e (wv m b) f)))) + wv (Bg (Gc (wv m b) (f - (Cu (wv n a) e (wv m b) f)))) (Ap (Gc (wv m b) (f - (Cu (wv n a) e (wv m b) f)))))) && Y0 (Cu (wv n a) e (wv m b) f))) rfl rfl) rfl) rfl) rfl) rfl)
abbrev _root_.Go.Proofs.S1.Aw.Add.Kn := A3 Tryz.prog 42 Aw.Add.spec
theorem Aw.Add.Ac (hk : Ay Tryz.prog Aw.Add.A7) (h : ∀ (n : Bool) (a : List Int) (e : Int) (m : Bool) (b : List Int) (f : Int), Aw.Add.pre [.b n, .l a, .i e, .b m, .l b, .i f] = true → Bc Aw.Add.E Tryz.f42 [.agg [.bool n, .ints .arg .u32 a, .int .i64 e], .agg [.bool m, .ints .arg .u32 b, .int .i64 f]] (Aw.Add.out [.b n, .l a, .i e, .b m, .l b, .i f])) : Aw.Add.Kn :=
  Ak (Az hk _ _ _) Tryz.func42 (by kernel_rfl) (by kernel_rfl) h
def Aw.Sub.A7 : List (Nat × Entry) := [(42, Aw.Add.spec), (170, Aw.Neg.spec)]
def Aw.Sub.E : Env := Bb (A5 Aw.Sub.A7) (fun _ => false) (fun _ => none) (fun _ => none)
theorem Aw.Sub.ev (N : Nat) (n : Bool) (a : List Int) (e : Int) (m : Bool) (b : List Int) (f : Int) : Bx Aw.Sub.E N Tryz.f105 (An Tryz.f105) [.agg [.bool n, .ints .arg .u32 a, .int .i64 e], .agg [.bool m, .ints .arg .u32 b, .int .i64 f]] = bif (I3 m b) then bif (((V4 n a && V4 (Bg (- wv m b)) (Ap (- wv m b))) && Vs e) && Vs f) then some (.agg [.bool (Bg (Ql (wv n a) e (wv (Bg (- wv m b)) (Ap (- wv m b))) f)), .ints .arg .u32 (Ap (Ql (wv n a) e (wv (Bg (- wv m b)) (Ap (- wv m b))) f)), .int .i64 (Ant (wv n a) e (wv (Bg (- wv m b)) (Ap (- wv m b))) f)]) else none else none :=
  Eq.trans (by kernel_rfl)
  (Cx (E3 (I3 m b)) (Cx (E3 (((V4 n a && V4 (Bg (- wv m b)) (Ap (- wv m b))) && Vs e) && Vs f)) rfl rfl) rfl)
abbrev _root_.Go.Proofs.S1.Aw.Sub.Kn := A3 Tryz.prog 105 Aw.Sub.spec
theorem Aw.Sub.Ac (hk : Ay Tryz.prog Aw.Sub.A7) (h : ∀ (n : Bool) (a : List Int) (e : Int) (m : Bool) (b : List Int) (f : Int), Aw.Sub.pre [.b n, .l a, .i e, .b m, .l b, .i f] = true → Bc Aw.Sub.E Tryz.f105 [.agg [.bool n, .ints .arg .u32 a, .int .i64 e], .agg [.bool m, .ints .arg .u32 b, .int .i64 f]] (Aw.Sub.out [.b n, .l a, .i e, .b m, .l b, .i f])) : Aw.Sub.Kn :=
  Ak (Az hk _ _ _) Tryz.func105 (by kernel_rfl) (by kernel_rfl) h
def Aw.Vq.A7 : List (Nat × Entry) := [(223, Af.Qo.spec)]
def Aw.Vq.E : Env := Bb (A5 Aw.Vq.A7) (fun _ => false) (fun _ => none) (fun _ => none)
theorem Aw.Vq.ev (N : Nat) (n : Bool) (a : List Int) (e : Int) : Bx Aw.Vq.E N Tryz.f180 (An Tryz.f180) [.agg [.bool n, .ints .arg .u32 a, .int .i64 e]] = bif ((List.length a : Int) == (0 : Int)) then some (.int .i64 0) else bif (I3 n a) then some (.int .i64 (Ab ((Xr (wv n a)) + e))) else none :=
  Eq.trans (by kernel_rfl)
  (Ee rfl (Cx (E3 (I3 n a)) rfl rfl))
abbrev _root_.Go.Proofs.S1.Aw.Vq.Kn := A3 Tryz.prog 180 Aw.Vq.spec
theorem Aw.Vq.Ac (hk : Ay Tryz.prog Aw.Vq.A7) (h : ∀ (n : Bool) (a : List Int) (e : Int), Aw.Vq.pre [.b n, .l a, .i e] = true → Bc Aw.Vq.E Tryz.f180 [.agg [.bool n, .ints .arg .u32 a, .int .i64 e]] (Aw.Vq.out [.b n, .l a, .i e])) : Aw.Vq.Kn :=
  Ak (Az hk _ _ _) Tryz.func180 (by kernel_rfl) (by kernel_rfl) h
def Aw.Sign.A7 : List (Nat × Entry) := []
def Aw.Sign.E : Env := Bb (A5 Aw.Sign.A7) (fun _ => false) (fun _ => none) (fun _ => none)
theorem Aw.Sign.ev (N : Nat) (n : Bool) (a : List Int) (e : Int) : Bx Aw.Sign.E N Tryz.f179 (An Tryz.f179) [.agg [.bool n, .ints .arg .u32 a, .int .i64 e]] = bif n then some (.int .i64 (-1 : Int)) else some (.int .i64 (min (List.length a : Int) (1 : Int))) := by kernel_rfl
abbrev _root_.Go.Proofs.S1.Aw.Sign.Kn := A3 Tryz.prog 179 Aw.Sign.spec
theorem Aw.Sign.Ac (hk : Ay Tryz.prog Aw.Sign.A7) (h : ∀ (n : Bool) (a : List Int) (e : Int), Aw.Sign.pre [.b n, .l a, .i e] = true → Bc Aw.Sign.E Tryz.f179 [.agg [.bool n, .ints .arg .u32 a, .int .i64 e]] (Aw.Sign.out [.b n, .l a, .i e])) : Aw.Sign.Kn :=
  Ak (Az hk _ _ _) Tryz.func179 (by kernel_rfl) (by kernel_rfl) h
def Aw.Compare.A7 : List (Nat × Entry) := [(179, Aw.Sign.spec), (105, Aw.Sub.spec), (180, Aw.Vq.spec)]
def Aw.Compare.E : Env := Bb (A5 Aw.Compare.A7) (fun _ => false) (fun _ => none) (fun _ => none)
theorem Aw.Compare.ev (N : Nat) (n : Bool) (a : List Int) (e : Int) (m : Bool) (b : List Int) (f : Int) : Bx Aw.Compare.E N Tryz.f116 (An Tryz.f116) [.agg [.bool n, .ints .arg .u32 a, .int .i64 e], .agg [.bool m, .ints .arg .u32 b, .int .i64 f]] = bif (I3 n a) then bif (I3 m b) then bif ((Mq (wv n a)) != (Mq (wv m b))) then bif (I3 n a) then bif (I3 m b) then some (.int .i64 (min (1 : Int) (max (-1 : Int) (Ab ((Mq (wv n a)) - (Mq (wv m b))))))) else none else none else bif (I3 n a && Vs e) then bif (I3 m b && Vs f) then bif ((Hy (wv n a) e) != (Hy (wv m b) f)) then bif (I3 n a && Vs e) then bif (I3 m b && Vs f) then bif (I3 n a) then bif ((A4 (Hy (wv m b) f) (Hy (wv n a) e)) == (A4 (0 : Int) (Mq (wv n a)))) then some (.int .i64 1) else some (.int .i64 (-1 : Int)) else none else none else none else bif (((V4 n a && V4 m b) && Vs e) && Vs f) then bif (I3 (Bg (Ql (wv n a) e (- wv m b) f)) (Ap (Ql (wv n a) e (- wv m b) f))) then some (.int .i64 (Mq (wv (Bg (Ql (wv n a) e (- wv m b) f)) (Ap (Ql (wv n a) e (- wv m b) f))))) else none else none else none else none else none else none :=
  Eq.trans (by kernel_rfl)
  (Cx (E3 (I3 n a)) (Cx (E3 (I3 m b)) (Ee (Cx (E3 (I3 n a)) (Cx (E3 (I3 m b)) rfl rfl) rfl) (Cx (E3 (I3 n a && Vs e)) (Cx (E3 (I3 m b && Vs f)) (Ee (Cx (E3 (I3 n a && Vs e)) (Cx (E3 (I3 m b && Vs f)) (Cx (E3 (I3 n a)) rfl rfl) rfl) rfl) rfl) rfl) rfl)) rfl) rfl)
abbrev _root_.Go.Proofs.S1.Aw.Compare.Kn := A3 Tryz.prog 116 Aw.Compare.spec
theorem Aw.Compare.Ac (hk : Ay Tryz.prog Aw.Compare.A7) (h : ∀ (n : Bool) (a : List Int) (e : Int) (m : Bool) (b : List Int) (f : Int), Aw.Compare.pre [.b n, .l a, .i e, .b m, .l b, .i f] = true → Bc Aw.Compare.E Tryz.f116 [.agg [.bool n, .ints .arg .u32 a, .int .i64 e], .agg [.bool m, .ints .arg .u32 b, .int .i64 f]] (Aw.Compare.out [.b n, .l a, .i e, .b m, .l b, .i f])) : Aw.Compare.Kn :=
  Ak (Az hk _ _ _) Tryz.func116 (by kernel_rfl) (by kernel_rfl) h
end EqRefC
open EqRefC
def Aju (v e : Int) : Option DV := some (.agg [.bool (Bg v), .ints .arg .u32 (Ap v), .int .i64 e])
theorem wdy {drops : List Nat} {b : Bool} {l : List Int} {e : Int} : Wk drops (.agg [.bool b, .ints .arg .u32 l, .int .i64 e]) (.agg [.bool b, .ints .arg .u32 l, .int .i64 e]) := Wk.G3 (.cons .bool (.cons .Vw (.cons .int .nil)))
theorem Amn (v : Int) : (Ap v).getD 0 0 = ((v.natAbs % 4294967296 : Nat) : Int) := by
  have hg := Q6 (Gh v) 0
  rw [Ds, Nat.mul_zero, Nat.pow_zero, Nat.div_one] at hg
  exact hg
theorem Ag2 {v : Int} {k : Nat} (h : Dg v.natAbs < 268435456) : Dg (Kk v k).natAbs < 268435456 := by
  rw [Lk]
  exact Nat.lt_of_le_of_lt (L7 (Nat.div_le_self _ _)) h
theorem Ak0 {v : Int} {k : Nat} (h0 : v ≠ 0) (h : v.natAbs % 2 ^ k = 0) : Kk v k ≠ 0 ∧ Rg (Kk v k).natAbs + k = Rg v.natAbs := by
  have hv := Nat.div_add_mod v.natAbs (2 ^ k)
  rw [h, Nat.add_zero, Nat.mul_comm] at hv
  have hq : v.natAbs / 2 ^ k ≠ 0 := by
    intro e; rw [e] at hv; omega
  have ht := Aar hq k
  rw [hv] at ht
  have ha := Lk v k
  refine ⟨by omega, ?_⟩
  rw [ha]
  omega
theorem Aln (N : Nat) : ∀ (F : Nat) (v e : Int), v ≠ 0 → Rg v.natAbs < F → Dg v.natAbs < 268435456 → -4000000000000 ≤ e → e + Rg v.natAbs ≤ 400000000000000 →
    Aw.Of.L1 N F e (Bg v) (Ap v) = Aju (mD v) (eD v e) := by
  intro F
  induction F with
  | zero => intro v e _ h; omega
  | succ F ih =>
    intro v e h0 hF hv h1 h2
    rw [Aw.Of.B5, I2 hv, As2, G8]
    by_cases ho : v % 2 = 1
    · have : Aix v = true := As3 ho
      rw [this, Bool.not_true, As6, Aq9 ho, Ark ho]
      rfl
    · have : Aix v = false := As7 ho
      have hm : v.natAbs % 2 ^ 1 = 0 := by rw [Nat.pow_one]; omega
      obtain ⟨n1, n2⟩ := Ak0 h0 hm
      rw [this, Bool.not_false, As2, As2, Am (by omega) (by omega), ih (Kk v 1) (e + 1) n1 (by omega) (Ag2 hv) (by omega) (by omega), Al5 hm]
      have := Am0 (e := e) hm h0
      rw [← this]
      rfl
theorem Alo (N : Nat) : ∀ (F : Nat) (v e : Int), v ≠ 0 → Rg v.natAbs < F → Rg v.natAbs < N → Dg v.natAbs < 268435456 → -4000000000000 ≤ e → e + Rg v.natAbs ≤ 400000000000000 →
    Aw.Of.L0 N F e (Bg v) (Ap v) = Aju (mD v) (eD v e) := by
  intro F
  induction F with
  | zero => intro v e _ h; omega
  | succ F ih =>
    intro v e h0 hF hN hv h1 h2
    have hl := Is (n := v.natAbs) (by omega)
    rw [Aw.Of.As, Cm, As3 (by omega), As2, Amn]
    by_cases hz : v.natAbs % 4294967296 = 0
    · have e0 : (((v.natAbs % 4294967296 : Nat) : Int) == 0) = true := by rw [hz]; rfl
      have o3 : G7 ((Ap v).drop 1) = true := Ng (by rw [List.length_drop, Cm]; omega) (Ad4 (Gh v))
      have hm : v.natAbs % 2 ^ 32 = 0 := by rw [two32]; exact hz
      obtain ⟨n1, n2⟩ := Ak0 h0 hm
      rw [e0, As2, As3 (by omega), As2, o3, As2, Agq, Am (by omega) (by omega), ih (Kk v 32) (e + 32) n1 (by omega) (by omega) (Ag2 hv) (by omega) (by omega), Al5 hm]
      have := Am0 (e := e) hm h0
      rw [← this]
      rfl
    · have e0 : (((v.natAbs % 4294967296 : Nat) : Int) == 0) = false := by simp only [beq_eq_false_iff_ne, ne_eq]; omega
      rw [e0, As6]
      exact Aln N N v e h0 hN hv h1 h2
theorem Akn {v : Int} (h0 : v ≠ 0) (h : Dg v.natAbs < 268435456) : Rg v.natAbs < 8589934592 := by
  have h1 := Ap2 (n := v.natAbs) (by omega)
  have h2 := Zx (n := v.natAbs)
  omega
theorem Aw.Of.known : Aw.Of.Kn := Aw.Of.Ac (.cons Af.Hf.known (.cons Af.Made.known (.cons Af.Wc.known .nil))) fun n a e hp => by
  obtain ⟨h1, h2⟩ := Ad.1 hp
  obtain ⟨v, rfl, rfl, hv⟩ := Iy h1
  have h2 := Av.1 h2
  by_cases h0 : v = 0
  · subst h0
    refine ⟨0, .agg [.bool false, .nil, .int .i64 (0 : Int)], [], ?_, ?_⟩
    · rw [Aw.Of.ev]; rfl
    · show Wk [] _ (.agg [.bool (Bg (mD (wv (Bg 0) (Ap 0)))), .ints .arg .u32 (Ap (mD (wv (Bg 0) (Ap 0)))), .int .i64 (eD (wv (Bg 0) (Ap 0)) e)])
      rw [G8, O0.2 rfl]
      exact Wk.G3 (.cons .bool (.cons (.nil _ _) (.cons .int .nil)))
  · refine ⟨Rg v.natAbs + 1, Aw.Of.out [.b (Bg v), .l (Ap v), .i e], [], ?_, wdy⟩
    have ht := Akn h0 hv
    have hl := Is (n := v.natAbs) (by omega)
    have e0 : (((Ap v).length : Int) == 0) = false := by rw [Cm]; simp only [beq_eq_false_iff_ne, ne_eq]; omega
    show _ = Aju (mD (wv (Bg v) (Ap v))) (eD (wv (Bg v) (Ap v)) e)
    rw [Aw.Of.ev, e0, As6, G8]
    exact Alo _ _ v e h0 (by omega) (by omega) hv (by omega) (by omega)
theorem Aw.Neg.known : Aw.Neg.Kn := Aw.Neg.Ac (.cons Af.Neg.known .nil) fun n a e hp => by
  refine ⟨0, Aw.Neg.out [.b n, .l a, .i e], [], ?_, wdy⟩
  have hp : I3 n a = true := hp
  rw [Aw.Neg.ev, hp, As2]
  rfl
theorem Tt (v : Int) : (((Ap v).length : Int) == 0) = decide (v = 0) := by
  rw [Cm, Ati]
  simp only [beq_iff_eq, As9]
  constructor
  · intro h
    rcases Int.lt_trichotomy v 0 with k | k | k
    · have := Is (n := v.natAbs) (by omega); omega
    · exact k
    · have := Is (n := v.natAbs) (by omega); omega
  · intro h; rw [h]; rfl
theorem Aw.Wd.known : Aw.Wd.Kn := Aw.Wd.Ac .nil fun n a e m b f hp => by
  obtain ⟨h1, h2⟩ := Ad.1 hp
  obtain ⟨v, rfl, rfl, hv⟩ := Iy h1
  obtain ⟨w, rfl, rfl, hw⟩ := Iy h2
  refine ⟨0, Aw.Wd.out [.b (Bg v), .l (Ap v), .i e, .b (Bg w), .l (Ap w), .i f], [], ?_, .int⟩
  show _ = some (DV.int .i64 (Cu (wv (Bg v) (Ap v)) e (wv (Bg w) (Ap w)) f))
  rw [Aw.Wd.ev, G8, G8, Tt, Tt]
  unfold Cu
  by_cases h : v = 0
  · rw [As3 h, As2, if_pos h]
  · rw [As7 h, As6, if_neg h]
    by_cases h' : w = 0
    · rw [As3 h', As2, if_pos h']
    · rw [As7 h', As6, if_neg h']
theorem Wr (k : Int) : Gc 0 k = 0 := by
  unfold Gc
  split
  · exact Int.zero_mul _
  · exact Qw _
theorem Aw.Level.known : Aw.Level.Kn := Aw.Level.Ac (.cons Af.Bp.known .nil) fun n a e f hp => by
  obtain ⟨h1, h2⟩ := Ad.1 hp
  obtain ⟨v, rfl, rfl, hv⟩ := Oz h1
  refine ⟨0, Aw.Level.out [.b (Bg v), .l (Ap v), .i e, .i f], [], ?_, Ach⟩
  show _ = Ae2 (Gc (wv (Bg v) (Ap v)) (e - f))
  unfold Adj at h2
  rw [G8] at h2
  obtain ⟨h3, h4⟩ := Ad.1 h2
  have h3 := Av.1 h3
  have h4 := Av.1 h4
  rw [Aw.Level.ev, G8, Tt]
  by_cases h : v = 0
  · rw [As3 h, As2, h, Wr]; rfl
  · have o : Aq5 (Ab (e - f)) = true := by rw [Am (by omega) (by omega)]; exact Av.2 (by omega)
    rw [As7 h, As6, h1, o, As8, As2, Am (by omega) (by omega)]
    rfl
theorem Amb (n k : Nat) : Dg (n * 2 ^ k) ≤ Dg n + k := by
  refine M7 ?_
  have h1 := Lr n
  have h2 : n * 2 ^ k < 2 ^ (32 * Dg n) * 2 ^ k := (Nat.mul_lt_mul_right (Ch k)).2 h1
  rw [← Nat.pow_add] at h2
  exact Nat.lt_of_lt_of_le h2 (Ath (by decide) (by omega))
theorem Amc (v k : Int) : Dg (Gc v k).natAbs ≤ Dg v.natAbs + k.toNat := by
  unfold Gc
  by_cases h : 0 ≤ k
  · rw [if_pos h, Int.natAbs_mul, Int.natAbs_natCast]
    exact Amb _ _
  · rw [if_neg h, Lk]
    exact Nat.le_trans (L7 (Nat.div_le_self _ _)) (Nat.le_add_right _ _)
theorem Adx (v w : Int) : Dg (v + w).natAbs ≤ max (Dg v.natAbs) (Dg w.natAbs) + 1 := by
  refine M7 ?_
  have h1 := Lr v.natAbs
  have h2 := Lr w.natAbs
  have h3 : 2 ^ (32 * Dg v.natAbs) ≤ 2 ^ (32 * max (Dg v.natAbs) (Dg w.natAbs)) := Ath (by decide) (by omega)
  have h4 : 2 ^ (32 * Dg w.natAbs) ≤ 2 ^ (32 * max (Dg v.natAbs) (Dg w.natAbs)) := Ath (by decide) (by omega)
  rw [Nw]
  omega
theorem Xl {v e w f : Int} (he : -400000 ≤ e ∧ e ≤ 400000) (hf : -400000 ≤ f ∧ f ≤ 400000) : -400000 ≤ Cu v e w f ∧ Cu v e w f ≤ 400000 := by
  unfold Cu
  split
  · exact hf
  · split
    · exact he
    · omega
theorem Vz {v e l : Int} (hv : Dg v.natAbs < 134217728) (h : e - l ≤ 800000) : Dg (Gc v (e - l)).natAbs < 140000000 := by
  have := Amc v (e - l)
  omega
theorem Aw.Add.known : Aw.Add.Kn := Aw.Add.Ac (.cons Af.Add.known (.cons Aw.Level.known (.cons Aw.Wd.known (.cons Aw.Of.known .nil)))) fun n a e m b f hp => by
  obtain ⟨h1, hf⟩ := Ad.1 hp
  obtain ⟨h2, he⟩ := Ad.1 h1
  obtain ⟨h3, h4⟩ := Ad.1 h2
  obtain ⟨v, rfl, rfl, hv⟩ := Oz h3
  obtain ⟨w, rfl, rfl, hw⟩ := Oz h4
  have he := Av.1 he
  have hf := Av.1 hf
  refine ⟨0, Aw.Add.out [.b (Bg v), .l (Ap v), .i e, .b (Bg w), .l (Ap w), .i f], [], ?_, wdy⟩
  show _ = Aju (Ql (wv (Bg v) (Ap v)) e (wv (Bg w) (Ap w)) f) (Ant (wv (Bg v) (Ap v)) e (wv (Bg w) (Ap w)) f)
  have hlo := Xl (v := v) (w := w) he hf
  have l1 := Vz (l := Cu v e w f) hv (show e - Cu v e w f ≤ 800000 by omega)
  have l2 := Vz (l := Cu v e w f) hw (show f - Cu v e w f ≤ 800000 by omega)
  have l3 := Adx (Gc v (e - Cu v e w f)) (Gc w (f - Cu v e w f))
  have o1 : Adj v e (Cu v e w f) = true := Ad.2 ⟨Av.2 (by omega), Av.2 (by omega)⟩
  have o2 : Adj w f (Cu v e w f) = true := Ad.2 ⟨Av.2 (by omega), Av.2 (by omega)⟩
  have o3 : Y0 (Cu v e w f) = true := Av.2 (by omega)
  rw [Aw.Add.ev]
  simp only [G8]
  rw [I2 (v := v) (by omega), I2 (v := w) (by omega), h3, h4, o1, o2, I2 (v := Gc v (e - Cu v e w f)) (by omega), I2 (v := Gc w (f - Cu v e w f)) (by omega), I2 (v := Gc v (e - Cu v e w f) + Gc w (f - Cu v e w f)) (by omega), o3]
  simp only [As8, As2]
  rfl
theorem Aw.Sub.known : Aw.Sub.Kn := Aw.Sub.Ac (.cons Aw.Add.known (.cons Aw.Neg.known .nil)) fun n a e m b f hp => by
  obtain ⟨h1, hf⟩ := Ad.1 hp
  obtain ⟨h2, he⟩ := Ad.1 h1
  obtain ⟨h3, h4⟩ := Ad.1 h2
  obtain ⟨w, rfl, rfl, hw⟩ := Oz h4
  refine ⟨0, Aw.Sub.out [.b n, .l a, .i e, .b (Bg w), .l (Ap w), .i f], [], ?_, wdy⟩
  show _ = Aju (Ql (wv n a) e (- wv (Bg w) (Ap w)) f) (Ant (wv n a) e (- wv (Bg w) (Ap w)) f)
  rw [Aw.Sub.ev]
  simp only [G8]
  rw [I2 (v := w) (by omega), h3, Alm (v := -w) (by rw [Int.natAbs_neg]; exact hw), he, hf]
  rfl
theorem Ady {v : Int} (h : Dg v.natAbs < 268435456) : 0 ≤ Xr v ∧ Xr v ≤ 8589934593 := by
  have h2 := Zx (n := v.natAbs)
  unfold Xr
  split
  · omega
  · constructor <;> omega
theorem Aw.Vq.known : Aw.Vq.Kn := Aw.Vq.Ac (.cons Af.Qo.known .nil) fun n a e hp => by
  obtain ⟨h1, he⟩ := Ad.1 hp
  obtain ⟨v, rfl, rfl, hv⟩ := Iy h1
  have he := Av.1 he
  refine ⟨0, Aw.Vq.out [.b (Bg v), .l (Ap v), .i e], [], ?_, .int⟩
  show _ = some (DV.int .i64 (Hy (wv (Bg v) (Ap v)) e))
  have hb := Ady hv
  rw [Aw.Vq.ev, G8, Tt, h1]
  unfold Hy
  by_cases h : v = 0
  · rw [As3 h, As2, if_pos h]
  · rw [As7 h, As6, As2, if_neg h, Am (by omega) (by omega)]
theorem Aw.Sign.known : Aw.Sign.Kn := Aw.Sign.Ac .nil fun n a e hp => by
  obtain ⟨v, rfl, rfl, hv⟩ := Iy hp
  refine ⟨0, Aw.Sign.out [.b (Bg v), .l (Ap v), .i e], [], ?_, .int⟩
  show _ = some (DV.int .i64 (Mq (wv (Bg v) (Ap v))))
  rw [Aw.Sign.ev, G8, Cm]
  unfold Mq Bg
  by_cases h : v < 0
  · rw [As3 h, As2, if_pos h]
  · rw [As7 h, As6, if_neg h]
    by_cases h' : v = 0
    · rw [if_pos h', h']; rfl
    · have := Is (n := v.natAbs) (by omega)
      rw [if_neg h']
      congr 2
      omega
open EqRefC
theorem Afy {v e w f : Int} : (v ≠ 0 → 0 ≤ e - Cu v e w f) ∧ (w ≠ 0 → 0 ≤ f - Cu v e w f) := by
  unfold Cu
  constructor
  · intro h
    rw [if_neg h]
    split <;> omega
  · intro h
    split
    · omega
    · omega
theorem Ws {v k : Int} (h : v ≠ 0 → 0 ≤ k) : ∃ j : Nat, Gc v k = v * ((2 ^ j : Nat) : Int) ∧ (v ≠ 0 → (j : Int) = k) := by
  by_cases h0 : v = 0
  · exact ⟨0, by rw [h0, Wr, Int.zero_mul], fun k => absurd h0 k⟩
  · have hk := h h0
    refine ⟨k.toNat, ?_, fun _ => by omega⟩
    unfold Gc
    rw [if_pos hk]
theorem Xe (v : Int) (j : Nat) : (v * ((2 ^ j : Nat) : Int) < 0 ↔ v < 0) ∧ (v * ((2 ^ j : Nat) : Int) = 0 ↔ v = 0) := by
  have hp := Ch j
  constructor
  · constructor
    · intro h
      rcases Int.lt_or_le v 0 with h1 | h1
      · exact h1
      · have := Int.mul_nonneg h1 (Int.natCast_nonneg (2 ^ j)); omega
    · intro h
      exact Int.mul_neg_of_neg_of_pos h (by omega)
  · constructor
    · intro h
      rcases Int.mul_eq_zero.1 h with h | h
      · exact h
      · omega
    · intro h; rw [h, Int.zero_mul]
theorem Aa2 (v : Int) (j : Nat) : Mq (v * ((2 ^ j : Nat) : Int)) = Mq v := by
  obtain ⟨h1, h2⟩ := Xe v j
  unfold Mq
  simp only [h1, h2]
theorem Aqy (v : Int) : Mq (mD v) = Mq v := by
  have := Aa2 (mD v) (Rg v.natAbs)
  rw [← V7] at this
  exact this.symm
theorem Apn (x y : Int) : Mq (x + -y) = Vt x y := by
  unfold Mq Vt
  by_cases h : x < y
  · rw [if_pos (by omega), if_pos h]
  · rw [if_neg (by omega), if_neg h]
    by_cases h' : y < x
    · rw [if_neg (by omega), if_pos h']
    · rw [if_pos (by omega), if_neg h']
theorem Aoy (v e w f : Int) : Cu v e (-w) f = Cu v e w f := by
  unfold Cu
  have : (-w = 0) = (w = 0) := propext ⟨fun h => by omega, fun h => by omega⟩
  simp only [this]
theorem Am9 {x y : Int} (h : Mq x ≠ Mq y) : Vt x y = min 1 (max (-1) (Mq x - Mq y)) := by
  unfold Mq at h ⊢
  unfold Vt
  rcases Int.lt_trichotomy x 0 with h1 | h1 | h1 <;> rcases Int.lt_trichotomy y 0 with h2 | h2 | h2
  all_goals
    first
    | (exfalso; apply h; simp [show x < 0 by omega, show y < 0 by omega]; done)
    | (exfalso; apply h; subst h1; subst h2; rfl)
    | (exfalso; apply h; rw [if_neg (by omega), if_neg (by omega), if_neg (by omega), if_neg (by omega)]; done)
    | skip
  · rw [if_pos (by omega), if_pos (by omega), if_neg (by omega), if_pos (by omega)]; decide
  · rw [if_pos (by omega), if_pos (by omega), if_neg (by omega), if_neg (by omega)]; decide
  · rw [if_neg (by omega), if_pos (by omega), if_neg (by omega), if_pos (by omega), if_pos (by omega)]; decide
  · rw [if_pos (by omega), if_neg (by omega), if_pos (by omega), if_neg (by omega), if_neg (by omega)]; decide
  · rw [if_neg (by omega), if_pos (by omega), if_neg (by omega), if_neg (by omega), if_pos (by omega)]; decide
  · rw [if_neg (by omega), if_pos (by omega), if_neg (by omega), if_neg (by omega), if_neg (by omega), if_pos (by omega)]; decide
theorem Xn {a b : Nat} (ha : a ≠ 0) (h : a.log2 < b.log2) : a < b := by
  rcases Nat.lt_or_ge a b with k | k
  · exact k
  · have hb : b ≠ 0 := by
      intro e; rw [e] at h
      exact absurd h (by rw [show (0 : Nat).log2 = 0 by decide]; omega)
    have := (Nat.le_log2 ha).2 (Nat.le_trans (Nat.log2_self_le hb) k)
    omega
theorem Apm {v e w f : Int} (hs : Mq v = Mq w) (ht : Hy v e ≠ Hy w f) :
    Vu v e w f = if (decide (Hy w f < Hy v e) == decide (0 < Mq v)) = true then 1 else -1 := by
  obtain ⟨u1, u2⟩ := Afy (v := v) (e := e) (w := w) (f := f)
  obtain ⟨j, hx, hj⟩ := Ws u1
  obtain ⟨k, hy, hk⟩ := Ws u2
  unfold Vu
  rw [hx, hy]
  have z : v = 0 ↔ w = 0 := by
    unfold Mq at hs
    constructor
    · intro h; subst h
      revert hs
      simp
      split <;> simp_all
    · intro h; subst h
      revert hs
      simp
      split <;> simp_all
  by_cases v0 : v = 0
  · exfalso
    apply ht
    unfold Hy
    rw [if_pos v0, if_pos (z.1 v0)]
  · have w0 : w ≠ 0 := fun h => v0 (z.2 h)
    have hj := hj v0
    have hk := hk w0
    have nv : v.natAbs ≠ 0 := by omega
    have nw : w.natAbs ≠ 0 := by omega
    have l1 := K1 v.natAbs j nv
    have l2 := K1 w.natAbs k nw
    have ax : (v * ((2 ^ j : Nat) : Int)).natAbs = v.natAbs * 2 ^ j := by rw [Int.natAbs_mul, Int.natAbs_natCast]
    have ay : (w * ((2 ^ k : Nat) : Int)).natAbs = w.natAbs * 2 ^ k := by rw [Int.natAbs_mul, Int.natAbs_natCast]
    have sx := (Xe v j).1
    have sy := (Xe w k).1
    have zx := Aly v0 j
    have zy := Aly w0 k
    have tv : Hy v e = (v.natAbs.log2 : Int) + 1 + e := by unfold Hy Xr; rw [if_neg v0, if_neg v0]
    have tw : Hy w f = (w.natAbs.log2 : Int) + 1 + f := by unfold Hy Xr; rw [if_neg w0, if_neg w0]
    have big : Hy w f < Hy v e → w.natAbs * 2 ^ k < v.natAbs * 2 ^ j := fun h => Xn (H2 nw) (by omega)
    have lit : Hy v e < Hy w f → v.natAbs * 2 ^ j < w.natAbs * 2 ^ k := fun h => Xn (H2 nv) (by omega)
    generalize v * ((2 ^ j : Nat) : Int) = x at *
    generalize w * ((2 ^ k : Nat) : Int) = y at *
    by_cases hv : v < 0
    · have sv : Mq v = -1 := by unfold Mq; rw [if_pos hv]
      have hw : w < 0 := by
        rw [sv] at hs
        unfold Mq at hs
        rcases Int.lt_or_le w 0 with q | q
        · exact q
        · rw [if_neg (by omega), if_neg w0] at hs; omega
      rw [sv]
      unfold Vt
      by_cases h : Hy w f < Hy v e
      · have := big h
        rw [As3 h, if_pos (by omega)]; rfl
      · have := lit (by omega)
        rw [As7 h, if_neg (by omega), if_pos (by omega)]; rfl
    · have sv : Mq v = 1 := by unfold Mq; rw [if_neg hv, if_neg v0]
      have hw : ¬ w < 0 := by
        intro q
        rw [sv] at hs
        unfold Mq at hs
        rw [if_pos q] at hs; omega
      rw [sv]
      unfold Vt
      by_cases h : Hy w f < Hy v e
      · have := big h
        rw [As3 h, if_neg (by omega), if_pos (by omega)]; rfl
      · have := lit (by omega)
        rw [As7 h, if_pos (by omega)]; rfl
theorem An9 (v e w f : Int) : Mq (Ql v e (-w) f) = Vu v e w f := by
  obtain ⟨u1, u2⟩ := Afy (v := v) (e := e) (w := w) (f := f)
  obtain ⟨k, hy, hk⟩ := Ws u2
  have hy' : Gc (-w) (f - Cu v e w f) = -(Gc w (f - Cu v e w f)) := by
    by_cases w0 : w = 0
    · rw [w0]; show Gc 0 _ = _; rw [Wr]; rfl
    · unfold Gc
      rw [if_pos (u2 w0), if_pos (u2 w0), Int.neg_mul]
  unfold Ql Ann Vu
  rw [Aqy, Aoy, hy', Apn]
theorem Ajv {v e w f : Int} (h : Mq v ≠ Mq w) : Vu v e w f = min 1 (max (-1) (Mq v - Mq w)) := by
  obtain ⟨u1, u2⟩ := Afy (v := v) (e := e) (w := w) (f := f)
  obtain ⟨j, hx, hj⟩ := Ws u1
  obtain ⟨k, hy, hk⟩ := Ws u2
  have e1 := Aa2 v j
  have e2 := Aa2 w k
  unfold Vu
  rw [hx, hy, ← e1, ← e2]
  exact Am9 (by rw [e1, e2]; exact h)
theorem Wt (v : Int) : -1 ≤ Mq v ∧ Mq v ≤ 1 := by unfold Mq; split <;> (try split) <;> omega
theorem Ans {v e w f : Int} (hv : Dg v.natAbs < 134217728) (hw : Dg w.natAbs < 134217728) (he : -400000 ≤ e ∧ e ≤ 400000) (hf : -400000 ≤ f ∧ f ≤ 400000) : Dg (Ql v e w f).natAbs < 140000001 := by
  have hlo := Xl (v := v) (w := w) he hf
  have l1 := Vz (l := Cu v e w f) hv (show e - Cu v e w f ≤ 800000 by omega)
  have l2 := Vz (l := Cu v e w f) hw (show f - Cu v e w f ≤ 800000 by omega)
  have l3 := Adx (Gc v (e - Cu v e w f)) (Gc w (f - Cu v e w f))
  have l4 := L7 (Zw (Ann v e w f))
  unfold Ql
  unfold Ann at l4 ⊢
  omega
theorem Aw.Compare.known : Aw.Compare.Kn := Aw.Compare.Ac (.cons Aw.Sign.known (.cons Aw.Sub.known (.cons Aw.Vq.known .nil))) fun n a e m b f hp => by
  obtain ⟨h1, hf⟩ := Ad.1 hp
  obtain ⟨h2, he⟩ := Ad.1 h1
  obtain ⟨h3, h4⟩ := Ad.1 h2
  obtain ⟨v, rfl, rfl, hv⟩ := Oz h3
  obtain ⟨w, rfl, rfl, hw⟩ := Oz h4
  refine ⟨0, Aw.Compare.out [.b (Bg v), .l (Ap v), .i e, .b (Bg w), .l (Ap w), .i f], [], ?_, .int⟩
  show _ = some (DV.int .i64 (Vu (wv (Bg v) (Ap v)) e (wv (Bg w) (Ap w)) f))
  have bv := Wt v
  have bw := Wt w
  have hm := Ans (v := v) (w := -w) hv (by rw [Int.natAbs_neg]; exact hw) (Av.1 he) (Av.1 hf)
  rw [Aw.Compare.ev]
  simp only [G8]
  rw [I2 (v := v) (by omega), I2 (v := w) (by omega), I2 (v := Ql v e (-w) f) (by omega), h3, h4, he, hf, Ar, Ar]
  simp only [As8, As2]
  by_cases hs : Mq v = Mq w
  · have e0 : (Mq v != Mq w) = false := by simp [hs]
    rw [e0, As6]
    by_cases ht : Hy v e = Hy w f
    · have e1 : (Hy v e != Hy w f) = false := by simp [ht]
      rw [e1, As6, An9]
    · have e1 : (Hy v e != Hy w f) = true := by simp [ht]
      rw [e1, As2, Apm hs ht]
      cases (decide (Hy w f < Hy v e) == decide (0 < Mq v)) <;> rfl
  · have e0 : (Mq v != Mq w) = true := by simp [hs]
    rw [e0, As2, Ajv hs, Am (by omega) (by omega)]
namespace EqRefE
def A1.Value.A7 : List (Nat × Entry) := [(143, Af.Neg.spec), (115, Af.Of.spec), (109, Aw.Of.spec), (141, A1.K7.spec), (142, A1.Neg.spec), (140, A1.Power.spec)]
def A1.Value.E : Env := Bb (A5 A1.Value.A7) (fun _ => false) (fun _ => none) (fun _ => none)
theorem A1.Value.ev (N : Nat) (x : Int) : Bx A1.Value.E N Tryz.f63 (An Tryz.f63) [.int .u64 x] = bif (Kd x) then bif (Ahm (Ab (Cr x))) then bif (Kd x) then bif (A4 (0 : Int) (K9 x)) then bif (Kd x) then bif (Ahm (Ab (Bh ((Cr x) + (4503599627370496 : Int))))) then bif (Kd x) then bif (Ag x) then bif (Dh x) then bif (I3 (Bg ((Ab (Bh ((Cr x) + (4503599627370496 : Int)))))) (Ap ((Ab (Bh ((Cr x) + (4503599627370496 : Int))))))) then bif (I3 (Bg (- wv (Bg ((Ab (Bh ((Cr x) + (4503599627370496 : Int)))))) (Ap ((Ab (Bh ((Cr x) + (4503599627370496 : Int)))))))) (Ap (- wv (Bg ((Ab (Bh ((Cr x) + (4503599627370496 : Int)))))) (Ap ((Ab (Bh ((Cr x) + (4503599627370496 : Int)))))))) && Y0 (Ab ((K9 x) - (1075 : Int)))) then some (.agg [.bool (Bg (mD (wv (Bg (- wv (Bg ((Ab (Bh ((Cr x) + (4503599627370496 : Int)))))) (Ap ((Ab (Bh ((Cr x) + (4503599627370496 : Int)))))))) (Ap (- wv (Bg ((Ab (Bh ((Cr x) + (4503599627370496 : Int)))))) (Ap ((Ab (Bh ((Cr x) + (4503599627370496 : Int))))))))))), .ints .arg .u32 (Ap (mD (wv (Bg (- wv (Bg ((Ab (Bh ((Cr x) + (4503599627370496 : Int)))))) (Ap ((Ab (Bh ((Cr x) + (4503599627370496 : Int)))))))) (Ap (- wv (Bg ((Ab (Bh ((Cr x) + (4503599627370496 : Int)))))) (Ap ((Ab (Bh ((Cr x) + (4503599627370496 : Int))))))))))), .int .i64 (eD (wv (Bg (- wv (Bg ((Ab (Bh ((Cr x) + (4503599627370496 : Int)))))) (Ap ((Ab (Bh ((Cr x) + (4503599627370496 : Int)))))))) (Ap (- wv (Bg ((Ab (Bh ((Cr x) + (4503599627370496 : Int)))))) (Ap ((Ab (Bh ((Cr x) + (4503599627370496 : Int))))))))) (Ab ((K9 x) - (1075 : Int))))]) else none else none else bif (I3 (Bg ((Ab (Bh ((Cr x) + (4503599627370496 : Int)))))) (Ap ((Ab (Bh ((Cr x) + (4503599627370496 : Int)))))) && Y0 (Ab ((K9 x) - (1075 : Int)))) then some (.agg [.bool (Bg (mD (wv (Bg ((Ab (Bh ((Cr x) + (4503599627370496 : Int)))))) (Ap ((Ab (Bh ((Cr x) + (4503599627370496 : Int))))))))), .ints .arg .u32 (Ap (mD (wv (Bg ((Ab (Bh ((Cr x) + (4503599627370496 : Int)))))) (Ap ((Ab (Bh ((Cr x) + (4503599627370496 : Int))))))))), .int .i64 (eD (wv (Bg ((Ab (Bh ((Cr x) + (4503599627370496 : Int)))))) (Ap ((Ab (Bh ((Cr x) + (4503599627370496 : Int))))))) (Ab ((K9 x) - (1075 : Int))))]) else none else none else none else none else none else bif (Ag x) then bif (Dh x) then bif (I3 (Bg ((Ab (Cr x)))) (Ap ((Ab (Cr x))))) then bif (I3 (Bg (- wv (Bg ((Ab (Cr x)))) (Ap ((Ab (Cr x)))))) (Ap (- wv (Bg ((Ab (Cr x)))) (Ap ((Ab (Cr x)))))) && Y0 (-1074 : Int)) then some (.agg [.bool (Bg (mD (wv (Bg (- wv (Bg ((Ab (Cr x)))) (Ap ((Ab (Cr x)))))) (Ap (- wv (Bg ((Ab (Cr x)))) (Ap ((Ab (Cr x))))))))), .ints .arg .u32 (Ap (mD (wv (Bg (- wv (Bg ((Ab (Cr x)))) (Ap ((Ab (Cr x)))))) (Ap (- wv (Bg ((Ab (Cr x)))) (Ap ((Ab (Cr x))))))))), .int .i64 (eD (wv (Bg (- wv (Bg ((Ab (Cr x)))) (Ap ((Ab (Cr x)))))) (Ap (- wv (Bg ((Ab (Cr x)))) (Ap ((Ab (Cr x))))))) (-1074 : Int))]) else none else none else bif (I3 (Bg ((Ab (Cr x)))) (Ap ((Ab (Cr x)))) && Y0 (-1074 : Int)) then some (.agg [.bool (Bg (mD (wv (Bg ((Ab (Cr x)))) (Ap ((Ab (Cr x))))))), .ints .arg .u32 (Ap (mD (wv (Bg ((Ab (Cr x)))) (Ap ((Ab (Cr x))))))), .int .i64 (eD (wv (Bg ((Ab (Cr x)))) (Ap ((Ab (Cr x))))) (-1074 : Int))]) else none else none else none else none else none := by kernel_rfl
abbrev _root_.Go.Proofs.S1.A1.Value.Kn := A3 Tryz.prog 63 A1.Value.spec
theorem A1.Value.Ac (hk : Ay Tryz.prog A1.Value.A7) (h : ∀ (x : Int), A1.Value.pre [.i x] = true → Bc A1.Value.E Tryz.f63 [.int .u64 x] (A1.Value.out [.i x])) : A1.Value.Kn :=
  Ak (Az hk _ _ _) Tryz.func63 (by kernel_rfl) (by kernel_rfl) h
end EqRefE
open EqRefE
theorem Ahj {n k : Nat} (h : n < 2 ^ (32 * k)) {m : Nat} (hk : k < m) : Dg n < m := Nat.lt_of_le_of_lt (M7 h) hk
theorem Sz (m : Nat) : Hh false m = (m : Int) := rfl
theorem Ac1 (m : Nat) : Hh true m = -(m : Int) := rfl
theorem A1.Value.known : A1.Value.Kn := A1.Value.Ac (.cons Af.Neg.known (.cons Af.Of.known (.cons Aw.Of.known (.cons A1.K7.known (.cons A1.Neg.known (.cons A1.Power.known .nil)))))) fun x hp => by
  obtain ⟨n, rfl, hn⟩ := Bj (x := x) hp
  refine ⟨0, A1.Value.out [.i n], [], ?_, wdy⟩
  show _ = Aju (mD (Eu n)) (eD (Eu n) (Bf n))
  have hf := Jw n
  have hw := Ix n
  have small : ∀ k : Nat, k < 2 ^ 54 → Dg k < 268435456 := fun k hk => Ahj (k := 2) (Nat.lt_trans hk (by decide)) (by omega)
  have o1 : ∀ k : Nat, k < 2 ^ 54 → I3 (Bg (k : Int)) (Ap (k : Int)) = true := fun k hk => I2 (by rw [Int.natAbs_natCast]; exact small k hk)
  have o2 : ∀ k : Nat, k < 2 ^ 54 → I3 (Bg (-(k : Int))) (Ap (-(k : Int))) = true := fun k hk => I2 (by rw [Int.natAbs_neg, Int.natAbs_natCast]; exact small k hk)
  rw [A1.Value.ev]
  unfold Cr K9 Dh Eu Bf
  simp only [G8, As4]
  have e1 : Ab ((Cw n : Nat) : Int) = ((Cw n : Nat) : Int) := Am (by omega) (by omega)
  have e2 : Ab (Bh (((Cw n : Nat) : Int) + 4503599627370496)) = ((Cw n + 2 ^ 52 : Nat) : Int) := by
    rw [Dc (by omega) (by omega), Am (by omega) (by omega)]; omega
  have i1 : ∀ k : Nat, k < 2 ^ 54 → Ahm (k : Int) = true := fun k hk => Av.2 (by omega)
  rw [H0, B7 hn, e1, e2, i1 _ (by omega), i1 _ (by omega), Ar, Am (by omega) (by omega)]
  simp only [As2]
  unfold Au A0
  by_cases h : Dp n = 0
  · have o3 : Y0 (-1074) = true := Av.2 (by omega)
    rw [if_pos h, if_pos h, As7 (by omega), As6, o1 _ (by omega), o2 _ (by omega), o3]
    cases Bq n
    · rw [As6, Sz]; rfl
    · rw [As2, Ac1]; rfl
  · have o3 : Y0 ((Dp n : Int) - 1075) = true := Av.2 (by omega)
    rw [if_neg h, if_neg h, As3 (by omega), As2, o1 _ (by omega), o2 _ (by omega), o3]
    cases Bq n
    · rw [As6, Sz]; rfl
    · rw [As2, Ac1]; rfl
theorem Ako {m t : Nat} (h : m < 2 ^ t) (h0 : m ≠ 0) : Rg m < t := Nat.lt_of_le_of_lt (Ap2 h0) ((Nat.log2_lt h0).2 h)
theorem Akf (b : Nat) (g : Int) : Jm b g = vAt (Eu (b : Int)) (A0 b) g := by
  unfold Jm vAt Eu
  rw [As4]
  generalize 2 ^ (A0 b - g).toNat = p
  unfold Hh
  cases Bq b
  · exact Atn _ _
  · show -((Au b * p : Nat) : Int) = -(Au b : Int) * (p : Int)
    rw [Atn, Int.neg_mul]
theorem Aaq (b : Nat) : (Eu (b : Int)).natAbs = Au b := by
  unfold Eu Hh
  rw [As4]
  split <;> omega
theorem Aqf (b : Nat) : Dg (Eu (b : Int)).natAbs < 3 ∧ -400000 ≤ eD (Eu (b : Int)) (A0 b) ∧ eD (Eu (b : Int)) (A0 b) ≤ 400000 := by
  have hm := Ev b
  have he := D8 b
  have ha := Aaq b
  refine ⟨Ahj (k := 2) (by rw [ha]; exact Nat.lt_trans hm (by decide)) (by omega), ?_⟩
  unfold eD
  by_cases h : Eu (b : Int) = 0
  · rw [if_pos h]; omega
  · rw [if_neg h]
    have := Ako (m := (Eu (b : Int)).natAbs) (t := 53) (by rw [ha]; exact hm) (by omega)
    omega
theorem Abl {r : Nat} (h : r < 2 ^ 63) : Cz r = ((2 ^ 63 + r : Nat) : Int) := by
  unfold Cz; rw [As4, Xi h]
theorem M3 {r : Nat} (h : r < 2 ^ 63) (n : Bool) : (bif n then (bif (Ag (r : Int)) then some (DV.int .u64 (Cz r)) else none) else some (DV.int .u64 r)) = some (DV.int .u64 ((Bi n r : Nat) : Int)) := by
  cases n
  · rfl
  · rw [B7 (by omega), Abl h]; rfl
theorem Ny (n : Bool) (m : Nat) (e : Int) : Tc n m e = ((Bi n (Cg m e) : Nat) : Int) := by
  unfold Tc; rw [As4]
theorem Afn {E M : Nat} (h1 : 1 ≤ E) (h2 : E ≤ 2046) (h3 : 4503599627370496 ≤ M) (h4 : M < 9007199254740992) : E * 2 ^ 52 + M % 2 ^ 52 = min ((E - 1) * 2 ^ 52 + M) Dv := by
  obtain ⟨k, rfl⟩ : ∃ k, E = k + 1 := ⟨E - 1, by omega⟩
  obtain ⟨r, rfl⟩ : ∃ r, M = 2 ^ 52 + r := ⟨M - 2 ^ 52, by omega⟩
  have hr : r < 2 ^ 52 := by omega
  have hm : (2 ^ 52 + r) % 2 ^ 52 = r := by rw [Nat.add_mod_left, Atf hr]
  have hk : k * 2 ^ 52 ≤ 2045 * 2 ^ 52 := Ate _ (by omega)
  have hi : Dv = 2045 * 2 ^ 52 + 2 ^ 52 + 2 ^ 52 := by unfold Dv; rfl
  rw [hm, Nat.add_sub_cancel, Nat.succ_mul, hi]
  generalize 2 ^ 52 = c at *
  omega
theorem soft.Pack.known : soft.Pack.Kn := EqSoft.soft.Pack.Ac (.cons soft.De.known .nil) fun rk n m e hp hr => by
  have hp := Av.1 (show Km m e = true from hp)
  have hr : Ou m e < rk + 1 := hr
  obtain ⟨m0, m1, e0, e1⟩ := hp
  obtain ⟨M, rfl⟩ : ∃ M : Nat, m = M := ⟨m.toNat, by omega⟩
  refine ⟨0, soft.Pack.out [.b n, .i M, .i e], [], ?_, .int⟩
  rw [EqSoft.soft.Pack.ev]
  show _ = some (DV.int .u64 (Tc n M e))
  rw [Ny]
  unfold Ou at hr
  by_cases h0 : M = 0
  · subst h0
    have := M3 (r := 0) (by decide) n
    have e0 : Cg 0 e = 0 := rfl
    rw [e0]
    simpa using this
  · have b0 : ((M : Int) == 0) = false := by simp; omega
    rw [b0, As6]
    by_cases h1 : M = 9007199254740992
    · have b1 : D2 (9007199254740992 : Int) (M : Int) = true := by rw [D6]; simp; omega
      have s1 : C8 .u64 (M : Int) (1 : Int) = ((2 ^ 52 : Nat) : Int) := by
        rw [show (1 : Int) = ((1 : Nat) : Int) from rfl, Hb .u64 M 1 (by decide), h1]
      have w1 : Ab (e + 1) = e + 1 := Am (by omega) (by omega)
      rw [if_pos (by omega)] at hr
      have p1 : Km ((2 ^ 52 : Nat) : Int) (e + 1) = true := Av.2 (by omega)
      have p2 : C3 (Ou ((2 ^ 52 : Nat) : Int) (e + 1) < rk) = true := Av.2 (by
        unfold Ou
        rw [if_neg (by omega), if_neg (by omega)]; omega)
      rw [b1, s1, w1, p1, p2, Ny, h1]
      have := (Dy (2 ^ 52) 1 (e + 1)).1
      have e2 : e + 1 - ((1 : Nat) : Int) = e := by omega
      rw [e2] at this
      rw [← this]; rfl
    · have b1 : D2 (9007199254740992 : Int) (M : Int) = false := by rw [D6]; simp; omega
      rw [b1, As6]
      rw [if_neg (by omega)] at hr
      by_cases h2 : M < 4503599627370496
      · have b2 : A4 (M : Int) (4503599627370496 : Int) = true := by rw [Ar]; simp; omega
        rw [if_pos (by omega)] at hr
        by_cases h3 : e = -1074
        · subst h3
          have b3 : A4 (-1074 : Int) (-1074) = false := by decide
          rw [b2, b3, Bool.true_and, As6, As2, Wu h2]
          exact M3 (by omega) n
        · have b3 : A4 (-1074 : Int) e = true := by rw [Ar]; simp; omega
          have s1 : B2 .u64 (M : Int) (1 : Int) = ((M * 2 ^ 1 : Nat) : Int) := by
            rw [show (1 : Int) = ((1 : Nat) : Int) from rfl, E0 M 1 (by decide), Atf (by omega)]
          have w1 : Ab (e - 1) = e - 1 := Am (by omega) (by omega)
          have p1 : Km ((M * 2 ^ 1 : Nat) : Int) (e - 1) = true := Av.2 (by omega)
          have p2 : C3 (Ou ((M * 2 ^ 1 : Nat) : Int) (e - 1) < rk) = true := Av.2 (by
            unfold Ou
            rw [if_neg (by omega)]
            split <;> omega)
          rw [b2, b3, s1, w1, p1, p2, Ny]
          have := (Dy M 1 e).1
          have e2 : e - ((1 : Nat) : Int) = e - 1 := by omega
          rw [e2] at this
          rw [this]; rfl
      · have b2 : A4 (M : Int) (4503599627370496 : Int) = false := by rw [Ar]; simp; omega
        have w1 : Ab (e + 1075) = e + 1075 := Am (by omega) (by omega)
        rw [b2, w1, Bool.false_and, As6, As6]
        have hr := L4 (m := M) (e := e) (by omega) (by omega) e0
        by_cases h4 : 2047 ≤ e + 1075
        · have b4 : D2 (2047 : Int) (e + 1075) = true := by rw [D6]; simp; omega
          have : Cg M e = 9218868437227405312 := by rw [hr, Hk]; omega
          rw [b4, this, As2]
          exact M3 (r := 9218868437227405312) (by decide) n
        · have b4 : D2 (2047 : Int) (e + 1075) = false := by rw [D6]; simp; omega
          obtain ⟨E, hE⟩ : ∃ E : Nat, e + 1075 = E := ⟨(e + 1075).toNat, by omega⟩
          have s1 : Hn .u64 (B2 .u64 (Bh (e + 1075)) (52 : Int)) (Eg .u64 (M : Int) (4503599627370495 : Int)) = ((Cg M e : Nat) : Int) := by
            rw [hE, Dc (by omega) (by omega), show (52 : Int) = ((52 : Nat) : Int) from rfl, E0 E 52 (by decide), Atf (by omega),
              show (4503599627370495 : Int) = ((2 ^ 52 - 1 : Nat) : Int) from rfl, Ii 52 (by omega) (by decide), Ml (by omega) (by omega)]
            have hE2 : (e + 1074).toNat = E - 1 := by omega
            have hE3 : 1 ≤ E ∧ E ≤ 2046 := by omega
            have hM : 4503599627370496 ≤ M ∧ M < 9007199254740992 := by omega
            rw [hr, hE2]
            exact congrArg (fun (x : Nat) => (x : Int)) (Afn hE3.1 hE3.2 hM.1 hM.2)
          rw [b4, s1, As6]
          exact M3 (V0 M e) n
open EqSoft
theorem Akq {D : Nat} (h : D ≤ 63) : 2 ^ D < 2 ^ 64 := Nat.pow_lt_pow_right (by decide) (by omega)
theorem Pc (n : Bool) {r : Nat} (h : r < 2 ^ 63) : F5 .u64 ((Bi n r : Nat) : Int) (9223372036854775808 : Int) = (r : Int) := by
  have hs : Bi n r < 2 ^ 64 := by unfold Bi; split <;> omega
  unfold F5
  rw [show (9223372036854775808 : Int) = ((2 ^ 63 : Nat) : Int) from rfl, BitVec.toNat_and, BitVec.toNat_not, Ie, Ie, show IntKind.u64.bits = 64 from rfl, Atf hs,
    show 2 ^ 64 - 1 - 2 ^ 63 % 2 ^ 64 = 2 ^ 63 - 1 by decide, Nat.and_two_pow_sub_one_eq_mod]
  have : Bi n r % 2 ^ 63 = r := by unfold Bi; cases n <;> simp <;> omega
  rw [this]
  exact Ss (by omega)
theorem Afr (N : Nat) (ex n : Bool) {r : Nat} (h : r ≤ Dv) : soft.C6.C18 N ex ((Bi n r : Nat) : Int) = some (.tup [.int .u64 ((Bi n r : Nat) : Int), .int .u8 ((flags r ex : Nat) : Int)]) := by
  have h63 : r < 2 ^ 63 := by rw [Hk] at h; omega
  have hs : Bi n r < 2 ^ 64 := by unfold Bi; split <;> omega
  rw [soft.C6.Ars, Pc n h63, B7 hs]
  unfold Bd flags
  rw [As4, Ux n h]
  have hinf : (((r : Nat) : Int) == (9218868437227405312 : Int)) = decide (r = Dv) := by
    rw [Hk, Ati]; simp; omega
  rw [hinf]
  by_cases h1 : r = Dv
  · simp [h1]
  · by_cases h2 : 2 ^ 52 ≤ r
    · cases ex <;> simp [h1] <;> simp [show 4503599627370496 ≤ r by omega]
    · by_cases h3 : 0 < r
      · cases ex <;> simp [h1, h3] <;> simp [show ¬ 4503599627370496 ≤ r by omega]
      · cases ex <;> simp [h1, h3] <;> simp [show ¬ 4503599627370496 ≤ r by omega]
theorem Ai4 (N : Nat) (n : Bool) {m : Nat} {e : Int} (he : -1140 ≤ e ∧ e ≤ 50000) (r : Bool) : ∀ (k d F : Nat), d + k = 62 → k < F → (∀ d', d' < d → 2 ^ 53 ≤ m / 2 ^ d' ∨ e + d' < -1074) →
    ∃ D : Nat, soft.C6.L0 N F n m e r (d : Int) = soft.C6.C7 N n m e r (D : Int) ∧ Drop m e D := by
  intro k
  induction k with
  | zero =>
    intro d F hd hF hl
    obtain ⟨F, rfl⟩ : ∃ G, F = G + 1 := ⟨F - 1, by omega⟩
    obtain rfl : d = 62 := by omega
    rw [soft.C6.As, Hb .u64 m 62 (by decide), Am (by omega) (by omega), Am (by omega) (by omega), D6, Ar]
    have a0 : decide ((0 : Int) ≤ ((62 : Nat) : Int)) = true := by decide
    have a1 : ((((62 : Nat) : Int) + 1) == 63) = true := by decide
    rw [a0, As2, a1, As2]
    by_cases h : 2 ^ 53 ≤ m / 2 ^ 62 ∨ e + (62 : Nat) < -1074
    · refine ⟨63, ?_, by omega, by omega, fun d' hd' => ?_⟩
      · have : (decide ((9007199254740992 : Int) ≤ ((m / 2 ^ 62 : Nat) : Int)) || decide (e + ((62 : Nat) : Int) < -1074)) = true := by
          simp only [Bool.or_eq_true, As9]; omega
        rw [this]; rfl
      · rcases Nat.lt_or_ge d' 62 with h' | h'
        · exact hl d' h'
        · obtain rfl : d' = 62 := by omega
          exact h
    · refine ⟨62, ?_, by omega, fun _ => by omega, hl⟩
      have : (decide ((9007199254740992 : Int) ≤ ((m / 2 ^ 62 : Nat) : Int)) || decide (e + ((62 : Nat) : Int) < -1074)) = false := by
        simp only [Bool.or_eq_false_iff, Atl]; omega
      rw [this]; rfl
  | succ k ih =>
    intro d F hd hF hl
    obtain ⟨F, rfl⟩ : ∃ G, F = G + 1 := ⟨F - 1, by omega⟩
    rw [soft.C6.As, Hb .u64 m d (by show d ≤ 64; omega), Am (by omega) (by omega), Am (by omega) (by omega), D6, Ar]
    have a0 : decide ((0 : Int) ≤ (d : Int)) = true := by simp
    have a1 : (((d : Int) + 1) == 63) = false := by simp; omega
    rw [a0, As2, a1, As6]
    by_cases h : 2 ^ 53 ≤ m / 2 ^ d ∨ e + d < -1074
    · have : (decide ((9007199254740992 : Int) ≤ ((m / 2 ^ d : Nat) : Int)) || decide (e + (d : Int) < -1074)) = true := by
        simp only [Bool.or_eq_true, As9]; omega
      rw [this, As2, show (d : Int) + 1 = ((d + 1 : Nat) : Int) by omega]
      refine ih (d + 1) F (by omega) (by omega) fun d' hd' => ?_
      rcases Nat.lt_or_ge d' d with h' | h'
      · exact hl d' h'
      · obtain rfl : d' = d := by omega
        exact h
    · refine ⟨d, ?_, by omega, fun _ => by omega, hl⟩
      have : (decide ((9007199254740992 : Int) ≤ ((m / 2 ^ d : Nat) : Int)) || decide (e + (d : Int) < -1074)) = false := by
        simp only [Bool.or_eq_false_iff, Atl]; omega
      rw [this]; rfl
theorem Ai3 (N : Nat) (n : Bool) {m D : Nat} (hm : m < 2 ^ 64) {e : Int} (he : -1140 ≤ e ∧ e ≤ 50000) (r : Bool) (hD : D ≤ 63) (hq : (if e + D < -1074 then 0 else qOf m D r.toNat) ≤ 2 ^ 53) :
    soft.C6.C7 N n m e r (D : Int) = soft.C6.C18 N (decide (m % 2 ^ D = 0 ∧ r.toNat = 0)) ((Bi n (Cg (if e + D < -1074 then 0 else qOf m D r.toNat) (max (e + D) (-1074))) : Nat) : Int) := by
  have hA := Ch D
  have h2D := Akq hD
  have hr := Nat.mod_lt m hA
  have hqm : m / 2 ^ D ≤ m := Nat.div_le_self _ _
  rw [soft.C6.As1]
  have a0 : decide ((0 : Int) ≤ (D : Int)) = true := by simp
  have e1 : C8 .u64 (m : Int) (D : Int) = ((m / 2 ^ D : Nat) : Int) := Hb .u64 m D (by show D ≤ 64; omega)
  have e2 : B2 .u64 (1 : Int) (D : Int) = ((2 ^ D : Nat) : Int) := by
    rw [show (1 : Int) = ((1 : Nat) : Int) from rfl, E0 1 D (by omega), Nat.one_mul, Atf h2D]
  have e3 : Eg .u64 (m : Int) (Bh (B2 .u64 (1 : Int) (D : Int) - (1 : Int))) = ((m % 2 ^ D : Nat) : Int) := by
    rw [e2, Dc (by omega) (by omega), show ((2 ^ D : Nat) : Int) - 1 = ((2 ^ D - 1 : Nat) : Int) by omega, Ii D hm (by omega)]
  have e5 : (bif (((m % 2 ^ D : Nat) : Int) == (0 : Int)) then (!r) else false) = decide (m % 2 ^ D = 0 ∧ r.toNat = 0) := by
    by_cases h : m % 2 ^ D = 0
    · cases r <;> simp [h]
    · have : (((m % 2 ^ D : Nat) : Int) == (0 : Int)) = false := by simp only [beq_eq_false_iff_ne, ne_eq]; omega
      rw [this]; simp [h]
  rw [a0, As2, As2, e1, e3, e5, Ar]
  have last : ∀ (p : Bool) (q : Nat), q ≤ 2 ^ 64 - 1 → (if e + D < -1074 then 0 else q) ≤ 2 ^ 53 → soft.C6.C14 N n e (D : Int) ((q : Nat) : Int) p = soft.C6.C18 N p ((Bi n (Cg (if e + D < -1074 then 0 else q) (max (e + D) (-1074))) : Nat) : Int) := by
    intro p q hq hq2
    rw [soft.C6.Arv, Am (by omega) (by omega), Ar]
    have c16 : ∀ q' : Nat, q' ≤ 2 ^ 53 → soft.C6.C16 N n e (q' : Int) (D : Int) p = soft.C6.C18 N p ((Bi n (Cg q' (max (e + D) (-1074))) : Nat) : Int) := by
      intro q' hq'
      rw [soft.C6.Aru, Am (by omega) (by omega)]
      have : Km (q' : Int) (max (e + (D : Int)) (-1074)) = true := Av.2 (by omega)
      rw [this, Ny]; rfl
    by_cases h : e + D < -1074
    · rw [if_pos h] at hq2 ⊢
      have : decide (e + (D : Int) < -1074) = true := by simpa using h
      rw [this]
      exact c16 0 hq2
    · rw [if_neg h] at hq2 ⊢
      have : decide (e + (D : Int) < -1074) = false := by simpa using h
      rw [this]
      exact c16 q hq2
  have up : ∀ (half : Nat) (hh : 0 < D → half = 2 ^ (D - 1)) (p : Bool), soft.C6.C12 N n e r (D : Int) ((m / 2 ^ D : Nat) : Int) ((m % 2 ^ D : Nat) : Int) (half : Int) p = soft.C6.C18 N p ((Bi n (Cg (if e + D < -1074 then 0 else qOf m D r.toNat) (max (e + D) (-1074))) : Nat) : Int) := by
    intro half hh p
    rw [soft.C6.Arw, Ar, Ar]
    have odd : (Eg .u64 ((m / 2 ^ D : Nat) : Int) (1 : Int) == (1 : Int)) = decide (m / 2 ^ D % 2 = 1) := by
      rw [show (1 : Int) = ((2 ^ 1 - 1 : Nat) : Int) from rfl, Ii 1 (by omega) (by decide), Ati]
      simp only [beq_iff_eq, As9]
      omega
    rw [odd]
    have test : (decide ((0 : Int) < (D : Int)) && (decide ((half : Int) < ((m % 2 ^ D : Nat) : Int)) || ((((m % 2 ^ D : Nat) : Int) == (half : Int)) && (r || decide (m / 2 ^ D % 2 = 1))))) =
        decide (0 < D ∧ (2 ^ (D - 1) < m % 2 ^ D ∨ (m % 2 ^ D = 2 ^ (D - 1) ∧ (r.toNat = 1 ∨ m / 2 ^ D % 2 = 1)))) := by
      rw [Ati]
      generalize m % 2 ^ D = rr
      generalize m / 2 ^ D = qq
      generalize hg : 2 ^ (D - 1) = gg at hh
      by_cases h0 : 0 < D
      · have := hh h0
        subst this
        cases r <;> simp [h0] <;> omega
      · simp [h0]
    rw [test]
    by_cases ht : 0 < D ∧ (2 ^ (D - 1) < m % 2 ^ D ∨ (m % 2 ^ D = 2 ^ (D - 1) ∧ (r.toNat = 1 ∨ m / 2 ^ D % 2 = 1)))
    · have hq1 : qOf m D r.toNat = m / 2 ^ D + 1 := by unfold qOf; rw [if_pos ht]
      have hlt : m / 2 ^ D + 1 < 2 ^ 64 := by
        obtain ⟨d, rfl⟩ : ∃ d, D = d + 1 := ⟨D - 1, by omega⟩
        have h1 : m / 2 ^ (d + 1) ≤ m / 2 := Nat.div_le_div_left (by rw [Nat.pow_succ]; have := Ch d; omega) (by decide)
        omega
      rw [hq1] at hq ⊢
      rw [As3 ht, As2, Dc (by omega) (by omega), show ((m / 2 ^ D : Nat) : Int) + 1 = ((m / 2 ^ D + 1 : Nat) : Int) by omega]
      exact last p _ (by omega) hq
    · have hq1 : qOf m D r.toNat = m / 2 ^ D := by unfold qOf; rw [if_neg ht]; rfl
      rw [hq1] at hq ⊢
      rw [As7 ht, As6]
      exact last p _ (by omega) hq
  rcases Nat.eq_zero_or_pos D with rfl | hpos
  · have : decide ((0 : Int) < ((0 : Nat) : Int)) = false := by decide
    rw [this, As6]
    exact up 0 (fun h => absurd h (by omega)) _
  · have h1 : decide ((0 : Int) < (D : Int)) = true := by simpa using hpos
    have h2 : Ab ((D : Int) - 1) = ((D - 1 : Nat) : Int) := by rw [Am (by omega) (by omega)]; omega
    have h3 : decide ((0 : Int) ≤ ((D - 1 : Nat) : Int)) = true := by simp
    have h4 : B2 .u64 (1 : Int) ((D - 1 : Nat) : Int) = ((2 ^ (D - 1) : Nat) : Int) := by
      rw [show (1 : Int) = ((1 : Nat) : Int) from rfl, E0 1 (D - 1) (by omega), Nat.one_mul, Atf (Akq (by omega))]
    rw [h1, As2, h2, h3, As2, h4]
    exact up _ (fun _ => rfl) _
theorem soft.C6.known : soft.C6.Kn := soft.C6.Ac (.cons soft.Kind.known (.cons soft.Pack.known .nil)) fun n m e r hp => by
  obtain ⟨m0, m1, e1, e2, hr⟩ := Av.1 (show D1 m e r = true from hp)
  obtain ⟨M, rfl⟩ : ∃ M : Nat, m = M := ⟨m.toNat, by omega⟩
  refine ⟨63, soft.C6.out [.b n, .i M, .i e, .b r], [], ?_, Wk.Gm (.cons .int (.cons .int .nil))⟩
  show _ = some (DV.tup [.int .u64 (En n M e r), .int .u8 (Em n M e r)])
  unfold En Em Fz
  rw [As4, soft.C6.ev]
  dsimp only
  by_cases h0 : M = 0 ∧ r = false
  · obtain ⟨rfl, rfl⟩ := h0
    have : Km (0 : Int) (-1074) = true := Av.2 (by omega)
    have hp0 := Ny n 0 (-1074)
    rw [this]
    simp only [Bool.not_false, Bool.and_true, As2, Bool.toNat_false]
    have hz : (((0 : Nat) : Int) == 0) = true := rfl
    rw [hz, As2]
    have hp0 : Tc n (0 : Int) (-1074) = ((Bi n (Cg 0 (-1074)) : Nat) : Int) := hp0
    have z : ∀ E, Cg 0 E = 0 := fun E => if_pos rfl
    have z3 : ∀ E, flagsOf 0 E = 0 := fun E => if_pos rfl
    rw [hp0, z, show 4 * 0 + 0 = 0 from rfl, z, z3]
    rfl
  · have hc : ((((M : Nat) : Int) == (0 : Int)) && !r) = false := by
      cases r
      · have : M ≠ 0 := fun h => h0 ⟨h, rfl⟩
        simp; omega
      · simp
    rw [hc, As6]
    have he : -1140 ≤ e ∧ e ≤ 50000 := by omega
    obtain ⟨D, hl, hD⟩ := Ai4 63 n (m := M) he r 62 0 63 (by omega) (by omega) (fun d' h => by omega)
    have hs : r.toNat ≤ 1 := by cases r <;> decide
    have hV : 4 * M + r.toNat ≠ 0 := by
      intro h
      refine h0 ⟨by omega, ?_⟩
      cases r
      · rfl
      · simp at h
    obtain ⟨t1, t2, t3⟩ := Ai6 hD hs hV (by omega) (by omega) (fun h => by
      have : r = true := by cases r <;> simp_all
      have := hr this
      omega)
    have hl : soft.C6.L0 63 63 n (M : Int) e r (0 : Int) = soft.C6.C7 63 n (M : Int) e r (D : Int) := hl
    rw [hl, Ai3 63 n (by omega) he r hD.le t3, ← t1, Afr 63 _ n (Kl _ _), t2]
namespace EqSum
theorem E3 : ∀ a b : Bool, (bif a then true else b) = (a || b) := by decide
theorem Jn : ∀ a : Bool, ((!(!a)) || (a == false)) = true := by decide
theorem Iw : ∀ a : Bool, ((!(a == false)) || ((((!(a == false)) || (a == false)) && (((!(a == false)) || (a == false)) && true)) && true)) = true := by decide
theorem Ia : ∀ a : Bool, ((!(a == false)) || true) = true := by decide
theorem Gd : ∀ a b : Bool, (bif (!a) then true else (!b)) = ((!a) || (!b)) := by decide
theorem Jg : ∀ a : Bool, ((!(!(!a))) || ((!a) == false)) = true := by decide
theorem Ld : ∀ a : Bool, ((!((!a) == false)) || ((((!((!a) == false)) || ((!a) == false)) && true) && true)) = true := by decide
theorem Lx : ∀ a b : Bool, ((!((!a) == false)) || ((((!((!a) == false)) || ((!a) == false)) && true) && b)) = ((!a) || b) := by decide
theorem Pm : ∀ a : Bool, ((!((!a) == false)) || true) = true := by decide
def sum.right.A7 : List (Nat × Entry) := []
def sum.right.E : Env := Bb (A5 sum.right.A7) (fun _ => false) (fun _ => none) (fun _ => none)
theorem sum.right.ev (N : Nat) (m d : Int) : Bx sum.right.E N Tryz.f249 (An Tryz.f249) [.int .u64 m, .int .i64 d] = bif (A4 (63 : Int) d) then bif ((B2 .u64 (C8 .u64 m (63 : Int)) (63 : Int)) != m) then some (.int .u64 (Hn .u64 (C8 .u64 m (63 : Int)) (1 : Int))) else some (.int .u64 (C8 .u64 m (63 : Int))) else bif (decide (0 ≤ d)) then bif (decide (0 ≤ d)) then bif ((B2 .u64 (C8 .u64 m d) d) != m) then some (.int .u64 (Hn .u64 (C8 .u64 m d) (1 : Int))) else some (.int .u64 (C8 .u64 m d)) else none else none := by kernel_rfl
abbrev _root_.Go.Proofs.S1.sum.right.Kn := A3 Tryz.prog 249 sum.right.spec
theorem sum.right.Ac (hk : Ay Tryz.prog sum.right.A7) (h : ∀ (m d : Int), sum.right.pre [.i m, .i d] = true → Bc sum.right.E Tryz.f249 [.int .u64 m, .int .i64 d] (sum.right.out [.i m, .i d])) : sum.right.Kn :=
  Ak (Az hk _ _ _) Tryz.func249 (by kernel_rfl) (by kernel_rfl) h
def sum.Ed.A7 : List (Nat × Entry) := [(148, soft.Finite.spec), (155, soft.Kind.spec)]
def sum.Ed.E : Env := Bb (A5 sum.Ed.A7) (fun _ => false) (fun _ => none) (fun _ => none)
theorem sum.Ed.ev (N : Nat) (a b : Int) : Bx sum.Ed.E N Tryz.f248 (An Tryz.f248) [.int .u64 a, .int .u64 b] = bif (Ag a) then bif ((Bd a) == (4 : Int)) then some (.tup [.int .u64 9221120237041090560, .int .u8 0]) else bif (Ag b) then bif ((Bd b) == (4 : Int)) then some (.tup [.int .u64 9221120237041090560, .int .u8 0]) else bif (Ag a) then bif (Cv a) then some (.tup [.int .u64 b, .int .u8 0]) else bif (Ag b) then bif ((Cv b) || (a == b)) then some (.tup [.int .u64 a, .int .u8 0]) else some (.tup [.int .u64 9221120237041090560, .int .u8 16]) else none else none else none else none :=
  Eq.trans (by kernel_rfl)
  (Ee (Ee rfl (Ee (Ee rfl (Ee (Ee rfl (Ee (Ax (Ia (Cv b)) (Ax (Ia (Cv b)) (Ax (Iw (Cv b)) (Ax (Jn (Cv b)) (Cx (E3 (Cv b) (a == b)) rfl rfl))))) rfl)) rfl)) rfl)) rfl)
abbrev _root_.Go.Proofs.S1.sum.Ed.Kn := A3 Tryz.prog 248 sum.Ed.spec
theorem sum.Ed.Ac (hk : Ay Tryz.prog sum.Ed.A7) (h : ∀ (a b : Int), sum.Ed.pre [.i a, .i b] = true → Bc sum.Ed.E Tryz.f248 [.int .u64 a, .int .u64 b] (sum.Ed.out [.i a, .i b])) : sum.Ed.Kn :=
  Ak (Az hk _ _ _) Tryz.func248 (by kernel_rfl) (by kernel_rfl) h
def sum.Add.A7 : List (Nat × Entry) := [(148, soft.Finite.spec), (212, soft.C6.spec), (211, soft.Fp.spec), (213, soft.Sign.spec), (249, sum.right.spec), (248, sum.Ed.spec)]
def sum.Add.E : Env := Bb (A5 sum.Add.A7) (fun _ => false) (fun _ => none) (fun _ => none)
theorem sum.Add.ev (N : Nat) (a b : Int) : Bx sum.Add.E N Tryz.f232 (An Tryz.f232) [.int .u64 a, .int .u64 b] = bif (Ag a) then bif ((!(Cv a)) || (Ag b)) then bif ((!(Cv a)) || (!(Cv b))) then bif ((Ag a && Ag b) && (!(Cv a) || !(Cv b))) then some (.tup [.int .u64 (Jf a b), .int .u8 (Vp a b)]) else none else bif (Ag a) then bif (Ag b) then bif (Ag a) then bif (Ag b) then bif (A4 (Bf a) (Bf b)) then bif (Ag (B2 .u64 (Br a) (9 : Int)) && C3 (0 ≤ (Ab ((Bf b) - (Bf a))) ∧ (Ab ((Bf b) - (Bf a))) < 1000000)) then bif ((Dh b) == (Dh a)) then bif (D1 (Bh ((B2 .u64 (Br b) (9 : Int)) + (Ew (B2 .u64 (Br a) (9 : Int)) (Ab ((Bf b) - (Bf a)))))) (Ab ((Bf b) - (9 : Int))) false) then some (.tup [.int .u64 (En (Dh b) (Bh ((B2 .u64 (Br b) (9 : Int)) + (Ew (B2 .u64 (Br a) (9 : Int)) (Ab ((Bf b) - (Bf a)))))) (Ab ((Bf b) - (9 : Int))) false), .int .u8 (Em (Dh b) (Bh ((B2 .u64 (Br b) (9 : Int)) + (Ew (B2 .u64 (Br a) (9 : Int)) (Ab ((Bf b) - (Bf a)))))) (Ab ((Bf b) - (9 : Int))) false)]) else none else bif (A4 (Ew (B2 .u64 (Br a) (9 : Int)) (Ab ((Bf b) - (Bf a)))) (B2 .u64 (Br b) (9 : Int))) then bif (D1 (Bh ((B2 .u64 (Br b) (9 : Int)) - (Ew (B2 .u64 (Br a) (9 : Int)) (Ab ((Bf b) - (Bf a)))))) (Ab ((Bf b) - (9 : Int))) false) then some (.tup [.int .u64 (En (Dh b) (Bh ((B2 .u64 (Br b) (9 : Int)) - (Ew (B2 .u64 (Br a) (9 : Int)) (Ab ((Bf b) - (Bf a)))))) (Ab ((Bf b) - (9 : Int))) false), .int .u8 (Em (Dh b) (Bh ((B2 .u64 (Br b) (9 : Int)) - (Ew (B2 .u64 (Br a) (9 : Int)) (Ab ((Bf b) - (Bf a)))))) (Ab ((Bf b) - (9 : Int))) false)]) else none else bif (A4 (B2 .u64 (Br b) (9 : Int)) (Ew (B2 .u64 (Br a) (9 : Int)) (Ab ((Bf b) - (Bf a))))) then bif (D1 (Bh ((Ew (B2 .u64 (Br a) (9 : Int)) (Ab ((Bf b) - (Bf a)))) - (B2 .u64 (Br b) (9 : Int)))) (Ab ((Bf b) - (9 : Int))) false) then some (.tup [.int .u64 (En (Dh a) (Bh ((Ew (B2 .u64 (Br a) (9 : Int)) (Ab ((Bf b) - (Bf a)))) - (B2 .u64 (Br b) (9 : Int)))) (Ab ((Bf b) - (9 : Int))) false), .int .u8 (Em (Dh a) (Bh ((Ew (B2 .u64 (Br a) (9 : Int)) (Ab ((Bf b) - (Bf a)))) - (B2 .u64 (Br b) (9 : Int)))) (Ab ((Bf b) - (9 : Int))) false)]) else none else some (.tup [.int .u64 0, .int .u8 0]) else none else bif (Ag (B2 .u64 (Br b) (9 : Int)) && C3 (0 ≤ (Ab ((Bf a) - (Bf b))) ∧ (Ab ((Bf a) - (Bf b))) < 1000000)) then bif ((Dh a) == (Dh b)) then bif (D1 (Bh ((B2 .u64 (Br a) (9 : Int)) + (Ew (B2 .u64 (Br b) (9 : Int)) (Ab ((Bf a) - (Bf b)))))) (Ab ((Bf a) - (9 : Int))) false) then some (.tup [.int .u64 (En (Dh a) (Bh ((B2 .u64 (Br a) (9 : Int)) + (Ew (B2 .u64 (Br b) (9 : Int)) (Ab ((Bf a) - (Bf b)))))) (Ab ((Bf a) - (9 : Int))) false), .int .u8 (Em (Dh a) (Bh ((B2 .u64 (Br a) (9 : Int)) + (Ew (B2 .u64 (Br b) (9 : Int)) (Ab ((Bf a) - (Bf b)))))) (Ab ((Bf a) - (9 : Int))) false)]) else none else bif (A4 (Ew (B2 .u64 (Br b) (9 : Int)) (Ab ((Bf a) - (Bf b)))) (B2 .u64 (Br a) (9 : Int))) then bif (D1 (Bh ((B2 .u64 (Br a) (9 : Int)) - (Ew (B2 .u64 (Br b) (9 : Int)) (Ab ((Bf a) - (Bf b)))))) (Ab ((Bf a) - (9 : Int))) false) then some (.tup [.int .u64 (En (Dh a) (Bh ((B2 .u64 (Br a) (9 : Int)) - (Ew (B2 .u64 (Br b) (9 : Int)) (Ab ((Bf a) - (Bf b)))))) (Ab ((Bf a) - (9 : Int))) false), .int .u8 (Em (Dh a) (Bh ((B2 .u64 (Br a) (9 : Int)) - (Ew (B2 .u64 (Br b) (9 : Int)) (Ab ((Bf a) - (Bf b)))))) (Ab ((Bf a) - (9 : Int))) false)]) else none else bif (A4 (B2 .u64 (Br a) (9 : Int)) (Ew (B2 .u64 (Br b) (9 : Int)) (Ab ((Bf a) - (Bf b))))) then bif (D1 (Bh ((Ew (B2 .u64 (Br b) (9 : Int)) (Ab ((Bf a) - (Bf b)))) - (B2 .u64 (Br a) (9 : Int)))) (Ab ((Bf a) - (9 : Int))) false) then some (.tup [.int .u64 (En (Dh b) (Bh ((Ew (B2 .u64 (Br b) (9 : Int)) (Ab ((Bf a) - (Bf b)))) - (B2 .u64 (Br a) (9 : Int)))) (Ab ((Bf a) - (9 : Int))) false), .int .u8 (Em (Dh b) (Bh ((Ew (B2 .u64 (Br b) (9 : Int)) (Ab ((Bf a) - (Bf b)))) - (B2 .u64 (Br a) (9 : Int)))) (Ab ((Bf a) - (9 : Int))) false)]) else none else some (.tup [.int .u64 0, .int .u8 0]) else none else none else none else none else none else none else none :=
  Eq.trans (by kernel_rfl)
  (Ee (Ax (Pm (Cv a)) (Cx (Lx (Cv a) (Ag b)) (Ax (Ld (Cv a)) (Ax (Jg (Cv a)) (Cx (Gd (Cv a) (Cv b)) rfl rfl))) rfl)) rfl)
abbrev _root_.Go.Proofs.S1.sum.Add.Kn := A3 Tryz.prog 232 sum.Add.spec
theorem sum.Add.Ac (hk : Ay Tryz.prog sum.Add.A7) (h : ∀ (a b : Int), sum.Add.pre [.i a, .i b] = true → Bc sum.Add.E Tryz.f232 [.int .u64 a, .int .u64 b] (sum.Add.out [.i a, .i b])) : sum.Add.Kn :=
  Ak (Az hk _ _ _) Tryz.func232 (by kernel_rfl) (by kernel_rfl) h
def sum.Sub.A7 : List (Nat × Entry) := [(233, soft.De.spec), (232, sum.Add.spec)]
def sum.Sub.E : Env := Bb (A5 sum.Sub.A7) (fun _ => false) (fun _ => none) (fun _ => none)
theorem sum.Sub.ev (N : Nat) (a b : Int) : Bx sum.Sub.E N Tryz.f207 (An Tryz.f207) [.int .u64 a, .int .u64 b] = bif (Ag b) then bif (Ag a && Ag (Cz b)) then some (.tup [.int .u64 (Jf a (Cz b)), .int .u8 (Vp a (Cz b))]) else none else none := by kernel_rfl
abbrev _root_.Go.Proofs.S1.sum.Sub.Kn := A3 Tryz.prog 207 sum.Sub.spec
theorem sum.Sub.Ac (hk : Ay Tryz.prog sum.Sub.A7) (h : ∀ (a b : Int), sum.Sub.pre [.i a, .i b] = true → Bc sum.Sub.E Tryz.f207 [.int .u64 a, .int .u64 b] (sum.Sub.out [.i a, .i b])) : sum.Sub.Kn :=
  Ak (Az hk _ _ _) Tryz.func207 (by kernel_rfl) (by kernel_rfl) h
end EqSum
end Go.Proofs.S1
end
