/- A verified evaluator of the program's form and its use for this seat: S1EqBits6, S1EqTimes, S1PTimes, S1PTimesA, S1EqVec, S1PVec, S1EqMat, S1PMat, S1EqCmp, S1PCmp, S1PDiv, RootM. -/
import Derived.Test.YtjbokjpbiobjpaaGreatTE
import Derived.Test.YtjbokjpbiobjpaaGreatTF
import Derived.Test.YtjbokjpbiobjpaaGreatTH
import Derived.Test.YtjbokjpbiobjpaaGreatTG
set_option linter.unusedVariables false
set_option linter.unusedSimpArgs false
noncomputable section
namespace Go.Proofs.S1
open Go Go.Den Go.Rnd Go.Proofs
set_option linter.unusedVariables false
set_option maxRecDepth 100000
namespace EqBits6
def Ce.Bq.A9 : List (Nat × Entry) := [(261, Ce.J9.spec)]
def Ce.Bq.E : Env := Bb (A8 Ce.Bq.A9) (fun _ => false) (fun _ => none) (fun _ => none)
theorem Ce.Bq.ev (N : Nat) (x : Int) : A1 Ce.Bq.E N Tryz.f250 (Ad Tryz.f250) [.int .u64 x] =
  bif (Ah x) then
  some (.int .i64 (Ab ((64 : Int) - (Eb x))))
  else none := by kernel_rfl
theorem Ce.Bq.Ac (hk : A0 Tryz.prog Ce.Bq.A9) (h : ∀ (x : Int), Ce.Bq.pre [.i x] = true → ∃ N dv drops, A1 Ce.Bq.E N Tryz.f250 (Ad Tryz.f250) [.int .u64 x] = some dv ∧ Wk drops dv (Ce.Bq.out [.i x])) : Am Tryz.prog 250 Ce.Bq.spec :=
  Aj (A2 hk _ _ _) Tryz.func250 (by kernel_rfl) (by kernel_rfl) h
abbrev _root_.Go.Proofs.S1.Ce.Bq.Kn : Prop := Am Tryz.prog 250 Ce.Bq.spec
def Ce.G3.A9 : List (Nat × Entry) := []
def Ce.G3.E : Env := Bb (A8 Ce.G3.A9) (fun _ => false) (fun _ => none) (fun _ => none)
theorem Ce.G3.ev (N : Nat) (x y : Int) : A1 Ce.G3.E N Tryz.f237 (Ad Tryz.f237) [.int .u64 x, .int .u64 y] =
  some (.tup [.int .u64 (Bd ((Bd ((Bd ((Ct .u64 x (32 : Int)) * (Ct .u64 y (32 : Int)))) + (Ct .u64 (Bd ((Bd ((Ct .u64 x (32 : Int)) * (D3 .u64 y (4294967295 : Int)))) + (Ct .u64 (Bd ((D3 .u64 x (4294967295 : Int)) * (D3 .u64 y (4294967295 : Int)))) (32 : Int)))) (32 : Int)))) + (Ct .u64 (Bd ((D3 .u64 (Bd ((Bd ((Ct .u64 x (32 : Int)) * (D3 .u64 y (4294967295 : Int)))) + (Ct .u64 (Bd ((D3 .u64 x (4294967295 : Int)) * (D3 .u64 y (4294967295 : Int)))) (32 : Int)))) (4294967295 : Int)) + (Bd ((D3 .u64 x (4294967295 : Int)) * (Ct .u64 y (32 : Int)))))) (32 : Int)))), .int .u64 (Bd (x * y))]) := by kernel_rfl
theorem Ce.G3.Ac (hk : A0 Tryz.prog Ce.G3.A9) (h : ∀ (x y : Int), Ce.G3.pre [.i x, .i y] = true → ∃ N dv drops, A1 Ce.G3.E N Tryz.f237 (Ad Tryz.f237) [.int .u64 x, .int .u64 y] = some dv ∧ Wk drops dv (Ce.G3.out [.i x, .i y])) : Am Tryz.prog 237 Ce.G3.spec :=
  Aj (A2 hk _ _ _) Tryz.func237 (by kernel_rfl) (by kernel_rfl) h
abbrev _root_.Go.Proofs.S1.Ce.G3.Kn : Prop := Am Tryz.prog 237 Ce.G3.spec
abbrev _root_.Go.Proofs.S1.Ce.J9.Kn : Prop := Am Tryz.prog 261 Ce.J9.spec
theorem _root_.Go.Proofs.S1.Ce.J9.call : ∀ (args : Array Value) (w : World), (callFunc 261 args).run Tryz.prog w = .ok (.enter 261 args) w := Rn Tryz.func261 (by kernel_rfl) (show Tryz.f261.body = some (Ad Tryz.f261) by kernel_rfl)
theorem _root_.Go.Proofs.S1.Ce.J9.run (x : Int) (w : World) (h0 : 0 ≤ x) (h1 : x ≤ 18446744073709551615) : Calls Tryz.prog 261 #[.int .u64 x] w fun e w' => e = .returned (.int .i64 (Lib.bitLen x.toNat)) ∧ w' = w := Tryz.bits_Len64 x w h0 h1
end EqBits6
end Go.Proofs.S1
namespace Go.Proofs.S1
open Go Go.Den Go.Rnd Go.Proofs
set_option linter.unusedVariables false
set_option maxRecDepth 100000
namespace EqTimes
theorem Eu : ∀ a : Bool, ((!(!a)) || (a == false)) = true := by decide
theorem I7 : ∀ a : Bool, ((!(a == false)) || ((((!(a == false)) || (a == false)) && true) && true)) = true := by decide
theorem H8 : ∀ a : Bool, ((!(a == false)) || true) = true := by decide
theorem Hr : ∀ a b : Bool, (bif a then b else false) = (a && b) := by decide
theorem Ge : ∀ a : Bool, (((!a) || (a == true)) && true) = true := by decide
theorem Kb : ∀ a : Bool, ((!(a == true)) || ((((!(a == true)) || (a == true)) && true) && true)) = true := by decide
theorem Lu : ∀ a : Bool, ((!(a == true)) || true) = true := by decide
theorem Ld : ∀ a b : Bool, (bif a then true else b) = (a || b) := by decide
theorem Qk : ∀ a b c d : Bool, (bif (bif a then b else false) then true else (bif c then d else false)) = ((a && b) || (c && d)) := by decide
theorem Ru : ∀ a b : Bool, ((!(!(bif a then b else false))) || ((bif a then b else false) == false)) = true := by decide
theorem Ho : ∀ a b c : Bool, ((!((bif a then b else false) == false)) || (((!((bif a then b else false) == false)) || ((bif a then b else false) == false)) && (((!c) || (((bif a then b else false) == false) && (c == true))) && true))) = true := by decide
theorem Ip : ∀ a b c : Bool, ((!(((bif a then b else false) == false) && (c == true))) || ((((!(((bif a then b else false) == false) && (c == true))) || (((bif a then b else false) == false) && (c == true))) && true) && true)) = true := by decide
theorem I8 : ∀ a b c : Bool, ((!(((bif a then b else false) == false) && (c == true))) || true) = true := by decide
theorem Kl : ∀ a b : Bool, ((!((bif a then b else false) == false)) || ((((!((bif a then b else false) == false)) || ((bif a then b else false) == false)) && true) && true)) = true := by decide
theorem Mv : ∀ a b : Bool, ((!((bif a then b else false) == false)) || true) = true := by decide
theorem Mu : ∀ a : Bool, (a && true) = a := by decide
def times.signed.A9 : List (Nat × Entry) := [(233, soft.Cy.spec)]
def times.signed.E : Env := Bb (A8 times.signed.A9) (fun _ => false) (fun _ => none) (fun _ => none)
theorem times.signed.ev (N : Nat) (b : Int) (n : Bool) : A1 times.signed.E N Tryz.f235 (Ad Tryz.f235) [.int .u64 b, .bool n] =
  bif n then
  bif (Ah b) then
  some (.int .u64 (C0 b))
  else none
  else some (.int .u64 b) := by kernel_rfl
theorem times.signed.Ac (hk : A0 Tryz.prog times.signed.A9) (h : ∀ (b : Int) (n : Bool), times.signed.pre [.i b, .b n] = true → ∃ N dv drops, A1 times.signed.E N Tryz.f235 (Ad Tryz.f235) [.int .u64 b, .bool n] = some dv ∧ Wk drops dv (times.signed.out [.i b, .b n])) : Am Tryz.prog 235 times.signed.spec :=
  Aj (A2 hk _ _ _) Tryz.func235 (by kernel_rfl) (by kernel_rfl) h
abbrev _root_.Go.Proofs.S1.times.signed.Kn : Prop := Am Tryz.prog 235 times.signed.spec
def times.nan.A9 : List (Nat × Entry) := [(155, soft.Kind.spec)]
def times.nan.E : Env := Bb (A8 times.nan.A9) (fun _ => false) (fun _ => none) (fun _ => none)
theorem times.nan.ev (N : Nat) (a b : Int) : A1 times.nan.E N Tryz.f234 (Ad Tryz.f234) [.int .u64 a, .int .u64 b] =
  bif (Ah a) then
  bif ((A7 a) == (4 : Int)) then
  some (.bool true)
  else bif (Ah b) then
  bif ((A7 b) == (4 : Int)) then
  some (.bool true)
  else some (.bool false)
  else none
  else none := by kernel_rfl
theorem times.nan.Ac (hk : A0 Tryz.prog times.nan.A9) (h : ∀ (a b : Int), times.nan.pre [.i a, .i b] = true → ∃ N dv drops, A1 times.nan.E N Tryz.f234 (Ad Tryz.f234) [.int .u64 a, .int .u64 b] = some dv ∧ Wk drops dv (times.nan.out [.i a, .i b])) : Am Tryz.prog 234 times.nan.spec :=
  Aj (A2 hk _ _ _) Tryz.func234 (by kernel_rfl) (by kernel_rfl) h
abbrev _root_.Go.Proofs.S1.times.nan.Kn : Prop := Am Tryz.prog 234 times.nan.spec
def times.norm.A9 : List (Nat × Entry) := [(250, Ce.Bq.spec), (211, soft.Fa.spec)]
def times.norm.E : Env := Bb (A8 times.norm.A9) (fun _ => false) (fun _ => none) (fun _ => none)
theorem times.norm.ev (N : Nat) (b : Int) : A1 times.norm.E N Tryz.f236 (Ad Tryz.f236) [.int .u64 b] =
  bif (Ah b) then
  bif (Ah (Bk b)) then
  bif (decide (0 ≤ (Ab ((64 - Eb (Bk b)) - (11 : Int))))) then
  some (.tup [.int .u64 (Bp .u64 (Bk b) (Ab ((64 - Eb (Bk b)) - (11 : Int)))), .int .i64 (Ab ((Ba b) - (Ab ((64 - Eb (Bk b)) - (11 : Int)))))])
  else none
  else none
  else none := by kernel_rfl
theorem times.norm.Ac (hk : A0 Tryz.prog times.norm.A9) (h : ∀ (b : Int), times.norm.pre [.i b] = true → ∃ N dv drops, A1 times.norm.E N Tryz.f236 (Ad Tryz.f236) [.int .u64 b] = some dv ∧ Wk drops dv (times.norm.out [.i b])) : Am Tryz.prog 236 times.norm.spec :=
  Aj (A2 hk _ _ _) Tryz.func236 (by kernel_rfl) (by kernel_rfl) h
abbrev _root_.Go.Proofs.S1.times.norm.Kn : Prop := Am Tryz.prog 236 times.norm.spec
def times.wide.hint : Nat → Option Bf
  | 0 => some { keep := [0, 1, 2, 3], objs := [], boxes := [] }
  | _ => none
def times.wide.A9 : List (Nat × Entry) := [(212, soft.Cs.spec)]
def times.wide.E : Env := Bb (A8 times.wide.A9) (fun _ => false) times.wide.hint (fun _ => none)
def times.wide.L0 (N M : Nat) (n : Bool) (p1 p2 : Int) (p3 : Bool) : Option DV := B6 times.wide.E N Tryz.f238 (Ad Tryz.f238) [1, 0, 0] [] M ⟨Hq 39 [(0, .bool n), (1, .int .u64 p1), (2, .int .i64 p2), (3, .bool p3)], []⟩
theorem times.wide.Az (N M : Nat) (n : Bool) (p1 p2 : Int) (p3 : Bool) : times.wide.L0 N (M + 1) n p1 p2 p3 =
  bif ((A5 p2 (-1130 : Int)) && (A5 (1 : Int) p1)) then
  times.wide.L0 N M n (Ct .u64 p1 (1 : Int)) (Ab (p2 + (1 : Int))) (bif p3 then true else ((D3 .u64 p1 (1 : Int)) == (1 : Int)))
  else bif (A5 p2 (-1130 : Int)) then
  bif (Dn (0 : Int) (-1074 : Int) true) then
  some (.tup [.int .u64 (Ea n (0 : Int) (-1074 : Int) true), .int .u8 (D9 n (0 : Int) (-1074 : Int) true)])
  else none
  else bif (Dn p1 p2 p3) then
  some (.tup [.int .u64 (Ea n p1 p2 p3), .int .u8 (D9 n p1 p2 p3)])
  else none :=
  Eq.trans (by kernel_rfl)
  (Ax (Lu (A5 p2 (-1130 : Int))) (Ax (Kb (A5 p2 (-1130 : Int))) (Ax (Ge (A5 p2 (-1130 : Int))) (C1 (Hr (A5 p2 (-1130 : Int)) (A5 (1 : Int) p1)) (Ax (H8 p3) (Ax (I7 p3) (Ax (I7 p3) (Ax (Eu p3) rfl)))) rfl))))
theorem times.wide.ev (N : Nat) (n : Bool) (m e : Int) (r : Bool) : A1 times.wide.E N Tryz.f238 (Ad Tryz.f238) [.bool n, .int .u64 m, .int .i64 e, .bool r] =
  times.wide.L0 N N n m e r := by kernel_rfl
theorem times.wide.Ac (hk : A0 Tryz.prog times.wide.A9) (h : ∀ (n : Bool) (m e : Int) (r : Bool), times.wide.pre [.b n, .i m, .i e, .b r] = true → ∃ N dv drops, A1 times.wide.E N Tryz.f238 (Ad Tryz.f238) [.bool n, .int .u64 m, .int .i64 e, .bool r] = some dv ∧ Wk drops dv (times.wide.out [.b n, .i m, .i e, .b r])) : Am Tryz.prog 238 times.wide.spec :=
  Aj (A2 hk _ _ _) Tryz.func238 (by kernel_rfl) (by kernel_rfl) h
abbrev _root_.Go.Proofs.S1.times.wide.Kn : Prop := Am Tryz.prog 238 times.wide.spec
def times.Mul.A9 : List (Nat × Entry) := [(237, Ce.G3.spec), (155, soft.Kind.spec), (213, soft.Sign.spec), (234, times.nan.spec), (236, times.norm.spec), (235, times.signed.spec), (238, times.wide.spec)]
def times.Mul.E : Env := Bb (A8 times.Mul.A9) (fun _ => false) (fun _ => none) (fun _ => none)
theorem times.Mul.ev (N : Nat) (a b : Int) : A1 times.Mul.E N Tryz.f208 (Ad Tryz.f208) [.int .u64 a, .int .u64 b] =
  bif (Ah a) then
  bif (Ah b) then
  bif (Ah a) then
  bif (Ah b) then
  bif (Ah a && Ah b) then
  bif (nanI a b) then
  some (.tup [.int .u64 9221120237041090560, .int .u8 0])
  else bif ((((A7 a) == (3 : Int)) && ((A7 b) == (0 : Int))) || (((A7 a) == (0 : Int)) && ((A7 b) == (3 : Int)))) then
  some (.tup [.int .u64 9221120237041090560, .int .u8 16])
  else bif (((A7 a) == (3 : Int)) || ((A7 b) == (3 : Int))) then
  bif (Ah (9218868437227405312 : Int)) then
  some (.tup [.int .u64 (Qq (!((C6 a) == (C6 b))) (9218868437227405312 : Int)), .int .u8 0])
  else none
  else bif (((A7 a) == (0 : Int)) || ((A7 b) == (0 : Int))) then
  bif (Ah (0 : Int)) then
  some (.tup [.int .u64 (Qq (!((C6 a) == (C6 b))) (0 : Int)), .int .u8 0])
  else none
  else bif (Ah a && Ku a) then
  bif (Ah b && Ku b) then
  bif (Ah (Ci a) && Ah (Ci b)) then
  bif (Nn (Gy .u64 (Bp .u64 (Qt (Ci a) (Ci b)) (20 : Int)) (Ct .u64 (L5 (Ci a) (Ci b)) (44 : Int))) (Ab ((Ab ((F4 a) + (F4 b))) + (44 : Int)))) then
  some (.tup [.int .u64 (Ea (!((C6 a) == (C6 b))) (Gy .u64 (Bp .u64 (Qt (Ci a) (Ci b)) (20 : Int)) (Ct .u64 (L5 (Ci a) (Ci b)) (44 : Int))) (Ab ((Ab ((F4 a) + (F4 b))) + (44 : Int))) ((Bp .u64 (L5 (Ci a) (Ci b)) (20 : Int)) != (0 : Int))), .int .u8 (D9 (!((C6 a) == (C6 b))) (Gy .u64 (Bp .u64 (Qt (Ci a) (Ci b)) (20 : Int)) (Ct .u64 (L5 (Ci a) (Ci b)) (44 : Int))) (Ab ((Ab ((F4 a) + (F4 b))) + (44 : Int))) ((Bp .u64 (L5 (Ci a) (Ci b)) (20 : Int)) != (0 : Int)))])
  else none
  else none
  else none
  else none
  else none
  else none
  else none
  else none
  else none :=
  Eq.trans (by kernel_rfl)
  (Fb (Fb (Fb (Fb (Fb (Fb rfl (Ax (Lu ((A7 a) == (3 : Int))) (Ax (Kb ((A7 a) == (3 : Int))) (Ax (Ge ((A7 a) == (3 : Int))) (Ax (Mv ((A7 a) == (3 : Int)) ((A7 b) == (0 : Int))) (Ax (Kl ((A7 a) == (3 : Int)) ((A7 b) == (0 : Int))) (Ax (Kl ((A7 a) == (3 : Int)) ((A7 b) == (0 : Int))) (Ax (I8 ((A7 a) == (3 : Int)) ((A7 b) == (0 : Int)) ((A7 a) == (0 : Int))) (Ax (Ip ((A7 a) == (3 : Int)) ((A7 b) == (0 : Int)) ((A7 a) == (0 : Int))) (Ax (Ho ((A7 a) == (3 : Int)) ((A7 b) == (0 : Int)) ((A7 a) == (0 : Int))) (Ax (Ru ((A7 a) == (3 : Int)) ((A7 b) == (0 : Int))) (C1 (Qk ((A7 a) == (3 : Int)) ((A7 b) == (0 : Int)) ((A7 a) == (0 : Int)) ((A7 b) == (3 : Int))) rfl (Ax (H8 ((A7 a) == (3 : Int))) (Ax (I7 ((A7 a) == (3 : Int))) (Ax (Eu ((A7 a) == (3 : Int))) (C1 (Ld ((A7 a) == (3 : Int)) ((A7 b) == (3 : Int))) rfl (Ax (H8 ((A7 a) == (0 : Int))) (Ax (I7 ((A7 a) == (0 : Int))) (Ax (Eu ((A7 a) == (0 : Int))) (C1 (Ld ((A7 a) == (0 : Int)) ((A7 b) == (0 : Int))) rfl rfl)))))))))))))))))))) rfl) rfl) rfl) rfl) rfl)
theorem times.Mul.Ac (hk : A0 Tryz.prog times.Mul.A9) (h : ∀ (a b : Int), times.Mul.pre [.i a, .i b] = true → ∃ N dv drops, A1 times.Mul.E N Tryz.f208 (Ad Tryz.f208) [.int .u64 a, .int .u64 b] = some dv ∧ Wk drops dv (times.Mul.out [.i a, .i b])) : Am Tryz.prog 208 times.Mul.spec :=
  Aj (A2 hk _ _ _) Tryz.func208 (by kernel_rfl) (by kernel_rfl) h
abbrev _root_.Go.Proofs.S1.times.Mul.Kn : Prop := Am Tryz.prog 208 times.Mul.spec
def times.Div.hint : Nat → Option Bf
  | 1 => some { keep := [6, 10, 11, 12, 13, 14, 78], objs := [], boxes := [] }
  | _ => none
def times.Div.A9 : List (Nat × Entry) := [(155, soft.Kind.spec), (213, soft.Sign.spec), (234, times.nan.spec), (236, times.norm.spec), (235, times.signed.spec), (238, times.wide.spec)]
def times.Div.E : Env := Bb (A8 times.Div.A9) (fun _ => false) times.Div.hint (fun _ => none)
def times.Div.L0 (N M : Nat) (a b : Int) (p13 p14 p78 : Int) : Option DV := B6 times.Div.E N Tryz.f209 (Ad Tryz.f209) [1, 1, 1, 1, 1, 1, 1, 0, 1, 0] [] M ⟨Hq 104 [(6, .bool (!((C6 a) == (C6 b)))), (10, .int .i64 (F4 a)), (11, .int .u64 (Ci b)), (12, .int .i64 (F4 b)), (13, .int .u64 p13), (14, .int .u64 p14), (78, .int .i64 p78)], []⟩
theorem times.Div.Az (N M : Nat) (a b : Int) (p13 p14 p78 : Int) : times.Div.L0 N (M + 1) a b p13 p14 p78 =
  bif (A5 p78 (61 : Int)) then
  bif (Ds (Ci b) (Bp .u64 p14 (1 : Int))) then
  times.Div.L0 N M a b (Gy .u64 (Bp .u64 p13 (1 : Int)) (1 : Int)) (Bd ((Bp .u64 p14 (1 : Int)) - (Ci b))) (Ab (p78 + (1 : Int)))
  else times.Div.L0 N M a b (Bp .u64 p13 (1 : Int)) (Bp .u64 p14 (1 : Int)) (Ab (p78 + (1 : Int)))
  else bif (Nn p13 (Ab ((Ab ((F4 a) - (F4 b))) - (61 : Int)))) then
  some (.tup [.int .u64 (Ea (!((C6 a) == (C6 b))) p13 (Ab ((Ab ((F4 a) - (F4 b))) - (61 : Int))) (p14 != (0 : Int))), .int .u8 (D9 (!((C6 a) == (C6 b))) p13 (Ab ((Ab ((F4 a) - (F4 b))) - (61 : Int))) (p14 != (0 : Int)))])
  else none := by kernel_rfl
theorem times.Div.ev (N : Nat) (a b : Int) : A1 times.Div.E N Tryz.f209 (Ad Tryz.f209) [.int .u64 a, .int .u64 b] =
  bif (Ah a) then
  bif (Ah b) then
  bif (Ah a) then
  bif (Ah b) then
  bif (Ah a && Ah b) then
  bif (nanI a b) then
  some (.tup [.int .u64 9221120237041090560, .int .u8 0])
  else bif ((((A7 a) == (3 : Int)) && ((A7 b) == (3 : Int))) || (((A7 a) == (0 : Int)) && ((A7 b) == (0 : Int)))) then
  some (.tup [.int .u64 9221120237041090560, .int .u8 16])
  else bif ((A7 a) == (3 : Int)) then
  bif (Ah (9218868437227405312 : Int)) then
  some (.tup [.int .u64 (Qq (!((C6 a) == (C6 b))) (9218868437227405312 : Int)), .int .u8 0])
  else none
  else bif (((A7 b) == (3 : Int)) || ((A7 a) == (0 : Int))) then
  bif (Ah (0 : Int)) then
  some (.tup [.int .u64 (Qq (!((C6 a) == (C6 b))) (0 : Int)), .int .u8 0])
  else none
  else bif ((A7 b) == (0 : Int)) then
  bif (Ah (9218868437227405312 : Int)) then
  some (.tup [.int .u64 (Qq (!((C6 a) == (C6 b))) (9218868437227405312 : Int)), .int .u8 8])
  else none
  else bif (Ah a && Ku a) then
  bif (Ah b && Ku b) then
  bif ((Ci b) != 0) then
  bif ((Ci b) != 0) then
  times.Div.L0 N N a b (Bd (Int.tdiv (Ci a) (Ci b))) (Int.tmod (Ci a) (Ci b)) (0 : Int)
  else none
  else none
  else none
  else none
  else none
  else none
  else none
  else none
  else none :=
  Eq.trans (by kernel_rfl)
  (Fb (Fb (Fb (Fb (Fb (Fb rfl (Ax (Lu ((A7 a) == (3 : Int))) (Ax (Kb ((A7 a) == (3 : Int))) (Ax (Ge ((A7 a) == (3 : Int))) (Ax (Mv ((A7 a) == (3 : Int)) ((A7 b) == (3 : Int))) (Ax (Kl ((A7 a) == (3 : Int)) ((A7 b) == (3 : Int))) (Ax (Kl ((A7 a) == (3 : Int)) ((A7 b) == (3 : Int))) (Ax (I8 ((A7 a) == (3 : Int)) ((A7 b) == (3 : Int)) ((A7 a) == (0 : Int))) (Ax (Ip ((A7 a) == (3 : Int)) ((A7 b) == (3 : Int)) ((A7 a) == (0 : Int))) (Ax (Ho ((A7 a) == (3 : Int)) ((A7 b) == (3 : Int)) ((A7 a) == (0 : Int))) (Ax (Ru ((A7 a) == (3 : Int)) ((A7 b) == (3 : Int))) (C1 (Qk ((A7 a) == (3 : Int)) ((A7 b) == (3 : Int)) ((A7 a) == (0 : Int)) ((A7 b) == (0 : Int))) rfl (Fb rfl (Ax (H8 ((A7 b) == (3 : Int))) (Ax (I7 ((A7 b) == (3 : Int))) (Ax (Eu ((A7 b) == (3 : Int))) (C1 (Ld ((A7 b) == (3 : Int)) ((A7 a) == (0 : Int))) rfl (Fb rfl (Fb (Fb (C1 (Mu ((Ci b) != 0)) (C1 (Mu ((Ci b) != 0)) rfl rfl) rfl) rfl) rfl))))))))))))))))))) rfl) rfl) rfl) rfl) rfl)
theorem times.Div.Ac (hk : A0 Tryz.prog times.Div.A9) (h : ∀ (a b : Int), times.Div.pre [.i a, .i b] = true → ∃ N dv drops, A1 times.Div.E N Tryz.f209 (Ad Tryz.f209) [.int .u64 a, .int .u64 b] = some dv ∧ Wk drops dv (times.Div.out [.i a, .i b])) : Am Tryz.prog 209 times.Div.spec :=
  Aj (A2 hk _ _ _) Tryz.func209 (by kernel_rfl) (by kernel_rfl) h
abbrev _root_.Go.Proofs.S1.times.Div.Kn : Prop := Am Tryz.prog 209 times.Div.spec
end EqTimes
end Go.Proofs.S1
namespace Go.Proofs.S1
open Go Go.Den Go.Rnd Go.Proofs
open EqBits6 EqTimes
theorem bitLen_log2 {n : Nat} (h0 : n ≠ 0) (h : n < 2 ^ 64) : Go.Lib.bitLen n = n.log2 + 1 := by
  have h1 := Nat.log2_self_le h0
  have h2 := Nat.lt_log2_self (n := n)
  have hp := B1 n.log2
  have e : n / 2 ^ n.log2 = 1 := by
    rw [Nat.pow_succ] at h2
    exact Nat.div_eq_of_lt_le (by omega) (by omega)
  have e1 : Go.Lib.bitLen 1 = 1 := by decide
  rw [Go.Lib.bitLen_shift n.log2 n h1 h, e, e1]
theorem Ce.J9.known : Ce.J9.Kn := by
  refine ⟨?_, Ce.J9.call⟩
  intro args ha
  simp only [Ce.J9.spec, entry] at ha ⊢
  cases hd : Lv [.i .u64] args with
  | none => rw [hd] at ha; cases ha
  | some ats =>
    rw [hd] at ha
    simp only at ha ⊢
    obtain ⟨ds, h1, h2⟩ := Mb hd
    obtain ⟨x, _, _, rfl, rfl, he⟩ := h1.i_inv
    obtain ⟨rfl, rfl⟩ := he.Zn
    obtain ⟨n, rfl, hn⟩ := Bg (x := x) ha
    refine Mp.args ?_ h2
    intro w vals I hI hv
    obtain ⟨u, us, e1, e2, e3⟩ := hv
    simp only [Ak] at e2
    have e3 : us = [] := e3
    subst e2 e3
    have e4 : vals = #[.int .u64 (n : Int)] := Array.ext' e1
    subst e4
    refine (Ce.J9.run n w (by omega) (by omega)).mono ?_
    rintro e w' ⟨rfl, rfl⟩
    refine ⟨_, fun _ => none, rfl, Go.RowKit.Below.refl _ _, ⟨fun i b h => (by cases h), fun i j b h => (by cases h)⟩, ?_⟩
    show Ak _ _ (DV.int .i64 (Eb n)) _
    simp only [Ak]
    congr 1
    unfold Eb
    rw [Int.toNat_natCast]
    by_cases h0 : n = 0
    · subst h0; rfl
    · rw [bitLen_log2 h0 hn, if_neg (by omega)]; rfl
theorem len64_le {n : Nat} (hn : n < 2 ^ 64) : 0 ≤ Eb n ∧ Eb n ≤ 64 := by
  unfold Eb
  rw [Int.toNat_natCast]
  by_cases h0 : n = 0
  · subst h0; decide
  · have := (Nat.log2_lt h0).2 hn
    rw [if_neg (by omega)]; omega
theorem Ce.Bq.known : Ce.Bq.Kn := Ce.Bq.Ac (.cons Ce.J9.known .nil) fun x hp => by
  obtain ⟨n, rfl, hn⟩ := Bg (x := x) hp
  have := len64_le hn
  refine ⟨0, Ce.Bq.out [.i n], [], ?_, .int⟩
  rw [Ce.Bq.ev, By hn, cond_true, Ap (by omega) (by omega)]
  rfl
theorem Ie {a b : Nat} (ha : a < 4294967296) (hb : b < 4294967296) : a * b ≤ 18446744065119617025 :=
  Nat.le_trans (Nat.mul_le_mul (show a ≤ 4294967295 by omega) (show b ≤ 4294967295 by omega)) (by decide)
theorem mul64_hi (x y : Nat) (hx : x < 2 ^ 64) (hy : y < 2 ^ 64) :
    x * y / 18446744073709551616 = (x / 2 ^ 32) * (y / 2 ^ 32) + ((x / 2 ^ 32) * (y % 2 ^ 32) + (x % 2 ^ 32) * (y % 2 ^ 32) / 2 ^ 32) / 2 ^ 32 +
      (((x / 2 ^ 32) * (y % 2 ^ 32) + (x % 2 ^ 32) * (y % 2 ^ 32) / 2 ^ 32) % 2 ^ 32 + (x % 2 ^ 32) * (y / 2 ^ 32)) / 2 ^ 32 := by
  have ex : x = x / 2 ^ 32 * 4294967296 + x % 2 ^ 32 := by omega
  have ey : y = y / 2 ^ 32 * 4294967296 + y % 2 ^ 32 := by omega
  have ha : x / 2 ^ 32 < 4294967296 := by omega
  have hc : y / 2 ^ 32 < 4294967296 := by omega
  have hb : x % 2 ^ 32 < 4294967296 := by omega
  have hd : y % 2 ^ 32 < 4294967296 := by omega
  generalize x / 2 ^ 32 = a at *
  generalize x % 2 ^ 32 = b at *
  generalize y / 2 ^ 32 = c at *
  generalize y % 2 ^ 32 = d at *
  have e : x * y = a * c * 18446744073709551616 + (a * d + b * c) * 4294967296 + b * d := by
    rw [ex, ey, Nat.add_mul, Nat.mul_add, Nat.mul_add]
    have e1 : a * 4294967296 * (c * 4294967296) = a * c * 18446744073709551616 := by
      rw [Nat.mul_mul_mul_comm]
    have e2 : a * 4294967296 * d = a * d * 4294967296 := Nat.mul_right_comm _ _ _
    have e3 : b * (c * 4294967296) = b * c * 4294967296 := (Nat.mul_assoc _ _ _).symm
    rw [e1, e2, e3]
    omega
  have b1 := Ie ha hc
  have b2 := Ie ha hd
  have b3 := Ie hb hc
  have b4 := Ie hb hd
  rw [e]
  clear e ex ey
  generalize a * c = p at *
  generalize a * d = q at *
  generalize b * c = r at *
  generalize b * d = s at *
  omega
theorem Ce.G3.known : Ce.G3.Kn := Ce.G3.Ac .nil fun x y hp => by
  obtain ⟨h1, h2⟩ := Ag.1 hp
  obtain ⟨x, rfl, hx⟩ := Bg h1
  obtain ⟨y, rfl, hy⟩ := Bg h2
  refine ⟨0, Ce.G3.out [.i x, .i y], [], ?_, Wk.Gg (.cons .int (.cons .int .nil))⟩
  show _ = some (DV.tup [.int .u64 (Qt x y), .int .u64 (L5 x y)])
  have s32 : ∀ n : Nat, Ct .u64 (n : Int) (32 : Int) = ((n / 2 ^ 32 : Nat) : Int) := fun n => Gk .u64 n 32 (by decide)
  have m32 : ∀ n : Nat, n < 2 ^ 64 → D3 .u64 (n : Int) (4294967295 : Int) = ((n % 2 ^ 32 : Nat) : Int) := fun n hn => Hm 32 hn (by decide)
  have ha : x / 2 ^ 32 < 4294967296 := by omega
  have hc : y / 2 ^ 32 < 4294967296 := by omega
  have hb : x % 2 ^ 32 < 4294967296 := by omega
  have hd : y % 2 ^ 32 < 4294967296 := by omega
  have b1 := Ie ha hc
  have b2 := Ie ha hd
  have b3 := Ie hb hc
  have b4 := Ie hb hd
  have hhi := mul64_hi x y hx hy
  have wn : ∀ n : Nat, n < 2 ^ 64 → Bd (n : Int) = n := fun n hn => Cv (by omega) (by omega)
  have hlt : x * y / 18446744073709551616 < 2 ^ 64 := by
    rw [Nat.div_lt_iff_lt_mul (by decide)]
    have := Nat.mul_le_mul (show x ≤ 18446744073709551615 by omega) (show y ≤ 18446744073709551615 by omega)
    omega
  rw [Ce.G3.ev]
  simp only [s32, m32 x hx, m32 y hy]
  generalize hA : x / 2 ^ 32 = a at *
  generalize hB : x % 2 ^ 32 = b at *
  generalize hC : y / 2 ^ 32 = c at *
  generalize hD : y % 2 ^ 32 = d at *
  simp only [← Int.natCast_mul]
  rw [wn (a * c) (by omega), wn (a * d) (by omega), wn (b * c) (by omega), wn (b * d) (by omega), s32]
  simp only [← Int.natCast_add]
  rw [wn (a * d + b * d / 2 ^ 32) (by omega), s32, m32 _ (by omega)]
  simp only [← Int.natCast_add]
  rw [wn (a * c + (a * d + b * d / 2 ^ 32) / 2 ^ 32) (by omega), wn _ (by omega), s32]
  simp only [← Int.natCast_add]
  rw [← hhi, wn _ hlt]
  unfold Qt L5
  rw [Int.toNat_natCast, Int.toNat_natCast, Mt]
  congr 3
theorem times.signed.known : times.signed.Kn := times.signed.Ac (.cons soft.Cy.known .nil) fun b n hp => by
  have hp : Ah b = true := hp
  refine ⟨0, times.signed.out [.i b, .b n], [], ?_, .int⟩
  rw [times.signed.ev, hp]
  cases n <;> rfl
theorem times.nan.known : times.nan.Kn := times.nan.Ac (.cons soft.Kind.known .nil) fun a b hp => by
  obtain ⟨ha, hb⟩ := Ag.1 hp
  refine ⟨0, times.nan.out [.i a, .i b], [], ?_, .bool⟩
  rw [times.nan.ev, ha, hb, cond_true, cond_true]
  show _ = some (DV.bool (decide (A7 a = 4) || decide (A7 b = 4)))
  by_cases h1 : A7 a = 4
  · rw [h1]; rfl
  · have e1 : (A7 a == (4 : Int)) = false := by simp; exact h1
    rw [e1, decide_eq_false h1, cond_false]
    by_cases h2 : A7 b = 4
    · rw [h2]; rfl
    · have e2 : (A7 b == (4 : Int)) = false := by simp; exact h2
      rw [e2, decide_eq_false h2]; rfl
theorem Nb {n : Nat} (h : Aq n ≠ 0) : (Aq n).log2 ≤ 52 ∧ 2 ^ 52 ≤ Aq n * 2 ^ Bz n ∧ Aq n * 2 ^ Bz n < 2 ^ 53 ∧ Bz n ≤ 52 := by
  have h1 := El n
  have h2 : (Aq n).log2 < 53 := (Nat.log2_lt h).2 (by omega)
  have hz := Li (Aq n) (Bz n) h
  have hne : Aq n * 2 ^ Bz n ≠ 0 := Ha h
  have hl : (Aq n * 2 ^ Bz n).log2 = 52 := by rw [hz]; unfold Bz; omega
  refine ⟨by omega, ?_, ?_, by unfold Bz; omega⟩
  · rw [← Nat.le_log2 hne]; omega
  · rw [← Nat.log2_lt hne]; omega
theorem times.norm.known : times.norm.Kn := times.norm.Ac (.cons Ce.Bq.known (.cons soft.Fa.known .nil)) fun b hp => by
  obtain ⟨h1, h2⟩ := Ag.1 hp
  obtain ⟨n, rfl, hn⟩ := Bg h1
  have h2 : Aq n ≠ 0 := Ar.1 h2
  obtain ⟨l1, l2, l3, l4⟩ := Nb h2
  have hM := El n
  have hE := D7 n
  refine ⟨0, times.norm.out [.i n], [], ?_, Wk.Gg (.cons .int (.cons .int .nil))⟩
  show _ = some (DV.tup [.int .u64 (Ci n), .int .i64 (F4 n)])
  have e1 : Bk (n : Int) = (Aq n : Int) := rfl
  have e2 : Ba (n : Int) = Ay n := rfl
  have e3 : Eb (Aq n : Int) = ((Aq n).log2 : Int) + 1 := by
    unfold Eb
    rw [if_neg (by omega), Int.toNat_natCast]
  have e4 : Ab ((64 - (((Aq n).log2 : Int) + 1)) - (11 : Int)) = ((Bz n : Nat) : Int) := by
    rw [Ap (by omega) (by omega)]; unfold Bz; omega
  rw [times.norm.ev, By hn, e1, e2, By (n := Aq n) (by omega), e3, e4, Em _ _ (by omega), Nat.mod_eq_of_lt (by omega), Ap (by omega) (by omega), decide_eq_true (by omega)]
  rfl
theorem tiny {V t : Nat} {E : Int} (h0 : V ≠ 0) (h : V < 2 ^ t) (hE : E + t ≤ -1075) : B5 V E = 0 ∧ flagsOf V E = 3 := by
  have hl : V.log2 < t := (Nat.log2_lt h0).2 h
  have hL : B2 V E = -1074 := by unfold B2; omega
  obtain ⟨k, hk⟩ : ∃ k : Nat, (-1074 - E).toNat = t + 1 + k := ⟨(-1074 - E).toNat - t - 1, by omega⟩
  have hp : 2 ^ (t + 1) ≤ 2 ^ (t + 1 + k) := Nat.pow_le_pow_right (by decide) (by omega)
  have ht : 2 ^ (t + 1) = 2 * 2 ^ t := by rw [Nat.pow_succ]; omega
  have e2 : (-(-1074 - E)).toNat = 0 := by omega
  have hr : Iu V (-1074 - E) = 0 := by
    unfold Iu Lf
    rw [e2, hk, Nat.pow_zero, Nat.mul_one, Nat.div_eq_of_lt (by omega), Nat.mod_eq_of_lt (by omega), if_neg (by omega)]
  have hru : B5 V E = 0 := by
    unfold B5 kept
    rw [if_neg h0, hL, hr]
    simp
  refine ⟨hru, ?_⟩
  unfold flagsOf exact Lb
  rw [if_neg h0, hru, hL, e2, hk, Nat.pow_zero, Nat.mul_one, Nat.mod_eq_of_lt (by omega), decide_eq_false h0]
  decide
theorem near_half (n : Bool) {m : Nat} {e : Int} (r : Bool) (hm : 1 < m) (he : e < -1130) : Fg n (m / 2) (e + 1) (r || decide (m % 2 = 1)) = Fg n m e r := by
  have e1 : (4 * m + r.toNat) / 2 ^ 3 = m / 2 := by cases r <;> simp <;> omega
  have e2 : (r || decide (m % 2 = 1)) = decide ((4 * m + r.toNat) % 2 ^ 3 ≠ 0) := by
    rw [Bool.eq_iff_iff]
    cases r
    · simp; omega
    · simp; omega
  have := Sj n (V := 4 * m + r.toNat) (k := 3) (E := e - 2) (e := e + 1) (s := r || decide (m % 2 = 1)) (by omega) e2 (by omega) (.inr (by omega))
  rw [e1] at this
  exact this
theorem Si (n : Bool) {e : Int} (r : Bool) (he : e < -1130) : Fg n 1 e r = Fg n 0 (-1074) true := by
  have h1 : r.toNat ≤ 1 := by cases r <;> decide
  obtain ⟨a1, a2⟩ := tiny (V := 4 * 1 + r.toNat) (t := 3) (E := e - 2) (by omega) (by omega) (by omega)
  obtain ⟨b1, b2⟩ := tiny (V := 4 * 0 + true.toNat) (t := 1) (E := -1074 - 2) (by decide) (by decide) (by decide)
  unfold Fg
  rw [a1, a2, b1, b2]
theorem wide_loop (N : Nat) (n : Bool) : ∀ (k m : Nat) (e : Int) (r : Bool), 1 ≤ m → m < 2 ^ 62 → m ≤ 2 ^ k → -7000 ≤ e → e ≤ 6000 → (2 ^ 60 ≤ m ∨ e ≤ -1130) →
    times.wide.L0 N (k + 1) n (m : Int) e r = some (.tup [.int .u64 (((Fg n m e r).1 : Nat) : Int), .int .u8 (((Fg n m e r).2 : Nat) : Int)]) := by
  intro k
  induction k with
  | zero =>
    intro m e r h1 h2 h3 h4 h5 h6
    have hm : m = 1 := by simp at h3; omega
    subst hm
    rw [times.wide.Az, Aw, Aw]
    have c1 : decide ((1 : Int) < ((1 : Nat) : Int)) = false := by decide
    rw [c1, Bool.and_false, cond_false]
    by_cases he : e < -1130
    · have hp : Dn (0 : Int) (-1074 : Int) true = true := Ar.2 (by omega)
      rw [decide_eq_true he, cond_true, hp, cond_true, Si n r he]
      rfl
    · have he : e = -1130 := by omega
      subst he
      have hp : Dn ((1 : Nat) : Int) (-1130 : Int) r = true := Ar.2 (by omega)
      rw [decide_eq_false (by omega), cond_false, hp, cond_true]
      rfl
  | succ k ih =>
    intro m e r h1 h2 h3 h4 h5 h6
    rw [times.wide.Az, Aw, Aw]
    by_cases he : e < -1130
    · by_cases hm : 1 < m
      · have c1 : decide ((1 : Int) < (m : Int)) = true := decide_eq_true (by omega)
        have e1 : Ct .u64 (m : Int) (1 : Int) = ((m / 2 : Nat) : Int) := Gk .u64 m 1 (by decide)
        have e2 : D3 .u64 (m : Int) (1 : Int) = ((m % 2 : Nat) : Int) := Hm (a := m) 1 (by omega) (by decide)
        have e3 : (bif r then true else (D3 .u64 (m : Int) (1 : Int)) == (1 : Int)) = (r || decide (m % 2 = 1)) := by
          rw [e2]
          cases r
          · rw [Bool.eq_iff_iff]; simp; omega
          · rfl
        rw [decide_eq_true he, c1, Bool.and_self, cond_true, e1, e3, Ap (by omega) (by omega)]
        have hk : m / 2 ≤ 2 ^ k := by rw [Nat.pow_succ] at h3; omega
        rw [ih (m / 2) (e + 1) _ (by omega) (by omega) hk (by omega) (by omega) (.inr (by omega)), near_half n r hm he]
      · have hm : m = 1 := by omega
        subst hm
        have c1 : decide ((1 : Int) < ((1 : Nat) : Int)) = false := by decide
        have hp : Dn (0 : Int) (-1074 : Int) true = true := Ar.2 (by omega)
        rw [c1, Bool.and_false, cond_false, decide_eq_true he, cond_true, hp, cond_true, Si n r he]
        rfl
    · have hp : Dn (m : Int) e r = true := Ar.2 ⟨by omega, by omega, by omega, .inl (by omega), fun _ => by omega⟩
      rw [decide_eq_false he, Bool.false_and, cond_false, cond_false, hp, cond_true]
      rfl
theorem times.wide.known : times.wide.Kn := times.wide.Ac (.cons soft.Cs.known .nil) fun n m e r hp => by
  obtain ⟨h1, h2, h3, h4⟩ := Ar.1 (show Nn m e = true from hp)
  obtain ⟨m, rfl⟩ : ∃ k : Nat, m = k := ⟨m.toNat, by omega⟩
  refine ⟨63, times.wide.out [.b n, .i m, .i e, .b r], [], ?_, Wk.Gg (.cons .int (.cons .int .nil))⟩
  rw [times.wide.ev, wide_loop 63 n 62 m e r (by omega) (by omega) (by omega) (by omega) (by omega) (.inl (by omega))]
  rfl
end Go.Proofs.S1
namespace Go.Proofs.S1
open Go Go.Den Go.Rnd Go.Proofs
open EqTimes
theorem M6 {b : Nat} (h0 : Ai b ≠ 0) (h3 : Ai b ≠ 3) (h4 : Ai b ≠ 4) : Aq b ≠ 0 := by
  have := Hy b
  unfold Ai at h0 h3 h4
  unfold Aq
  by_cases h1 : C5 b = 2047
  · rw [if_pos h1] at h3 h4
    by_cases h2 : Cl b = 0
    · rw [if_pos h2] at h3; exact absurd rfl h3
    · rw [if_neg h2] at h4; exact absurd rfl h4
  · rw [if_neg h1] at h0
    by_cases h2 : 0 < C5 b
    · rw [if_neg (by omega)]; omega
    · rw [if_neg h2] at h0
      by_cases h5 : 0 < Cl b
      · rw [if_pos (by omega)]; omega
      · rw [if_neg h5] at h0; exact absurd rfl h0
theorem Tk {b : Nat} (h0 : Ai b = 0) : Aq b = 0 := by
  unfold Ai at h0
  unfold Aq
  by_cases h1 : C5 b = 2047
  · rw [if_pos h1] at h0; split at h0 <;> omega
  · rw [if_neg h1] at h0
    by_cases h2 : 0 < C5 b
    · rw [if_pos h2] at h0; omega
    · rw [if_neg h2] at h0
      by_cases h5 : 0 < Cl b
      · rw [if_pos h5] at h0; omega
      · rw [if_pos (by omega)]; omega
theorem mul_bounds {x y : Nat} (hx1 : 2 ^ 52 ≤ x) (hx2 : x < 2 ^ 53) (hy1 : 2 ^ 52 ≤ y) (hy2 : y < 2 ^ 53) : 2 ^ 104 ≤ x * y ∧ x * y < 2 ^ 106 := by
  have h1 := Nat.mul_le_mul hx1 hy1
  have h2 : x * y < 2 ^ 53 * 2 ^ 53 := Nat.mul_lt_mul'' hx2 hy2
  exact ⟨Nat.le_trans (by decide) h1, Nat.lt_of_lt_of_le h2 (by decide)⟩
theorem pack_hi {V : Nat} (h : V < 2 ^ 106) : Gy .u64 (Bp .u64 ((V / 18446744073709551616 : Nat) : Int) (20 : Int)) (Ct .u64 ((V % 18446744073709551616 : Nat) : Int) (44 : Int)) = ((V / 2 ^ 44 : Nat) : Int) := by
  have e1 : Bp .u64 ((V / 18446744073709551616 : Nat) : Int) (20 : Int) = ((V / 18446744073709551616 * 2 ^ 20 % 2 ^ 64 : Nat) : Int) := Em _ 20 (by decide)
  have e2 : Ct .u64 ((V % 18446744073709551616 : Nat) : Int) (44 : Int) = ((V % 18446744073709551616 / 2 ^ 44 : Nat) : Int) := Gk .u64 _ 44 (by decide)
  rw [e1, e2, Nat.mod_eq_of_lt (by omega), Ln (k := 20) (by omega) (by omega)]
  congr 1
  omega
theorem pack_lo {V : Nat} : ((Bp .u64 ((V % 18446744073709551616 : Nat) : Int) (20 : Int)) != (0 : Int)) = decide (V % 2 ^ 44 ≠ 0) := by
  have e1 : Bp .u64 ((V % 18446744073709551616 : Nat) : Int) (20 : Int) = ((V % 18446744073709551616 * 2 ^ 20 % 2 ^ 64 : Nat) : Int) := Em _ 20 (by decide)
  rw [e1, Bool.eq_iff_iff]
  simp only [bne_iff_ne, ne_eq, decide_eq_true_eq]
  omega
theorem Zl (s t : Bool) : (!(s == t)) = (s != t) := rfl
theorem w53 {x : Nat} (h : x < 2 ^ 53) : Ah (x : Int) = true := By (by omega)
theorem mul_num (n : Bool) {a b : Nat} (ha : Aq a ≠ 0) (hb : Aq b ≠ 0) :
    (bif (Ah (Ci a) && Ah (Ci b)) then
      bif (Nn (Gy .u64 (Bp .u64 (Qt (Ci a) (Ci b)) (20 : Int)) (Ct .u64 (L5 (Ci a) (Ci b)) (44 : Int))) (Ab ((Ab ((F4 a) + (F4 b))) + (44 : Int)))) then
        some (DV.tup [.int .u64 (Ea n (Gy .u64 (Bp .u64 (Qt (Ci a) (Ci b)) (20 : Int)) (Ct .u64 (L5 (Ci a) (Ci b)) (44 : Int))) (Ab ((Ab ((F4 a) + (F4 b))) + (44 : Int))) ((Bp .u64 (L5 (Ci a) (Ci b)) (20 : Int)) != (0 : Int))), .int .u8 (D9 n (Gy .u64 (Bp .u64 (Qt (Ci a) (Ci b)) (20 : Int)) (Ct .u64 (L5 (Ci a) (Ci b)) (44 : Int))) (Ab ((Ab ((F4 a) + (F4 b))) + (44 : Int))) ((Bp .u64 (L5 (Ci a) (Ci b)) (20 : Int)) != (0 : Int)))])
      else none
    else none) = some (.tup [.int .u64 ((Be n (B5 (Aq a * Aq b) (Ay a + Ay b)) : Nat) : Int), .int .u8 ((flagsOf (Aq a * Aq b) (Ay a + Ay b) : Nat) : Int)]) := by
  obtain ⟨a1, a2, a3, a4⟩ := Nb ha
  obtain ⟨b1, b2, b3, b4⟩ := Nb hb
  have ea := D7 a
  have eb := D7 b
  have ma : Ci (a : Int) = ((Aq a * 2 ^ Bz a : Nat) : Int) := rfl
  have mb : Ci (b : Int) = ((Aq b * 2 ^ Bz b : Nat) : Int) := rfl
  have na : F4 (a : Int) = Ay a - Bz a := rfl
  have nb : F4 (b : Int) = Ay b - Bz b := rfl
  have hi : Qt (Ci a) (Ci b) = ((Aq a * 2 ^ Bz a * (Aq b * 2 ^ Bz b) / 18446744073709551616 : Nat) : Int) := rfl
  have lo : L5 (Ci a) (Ci b) = ((Aq a * 2 ^ Bz a * (Aq b * 2 ^ Bz b) % 18446744073709551616 : Nat) : Int) := rfl
  rw [hi, lo, ma, mb, na, nb, w53 a3, w53 b3, Bool.and_self, cond_true]
  obtain ⟨v1, v2⟩ := mul_bounds a2 a3 b2 b3
  have ev : Aq a * 2 ^ Bz a * (Aq b * 2 ^ Bz b) = Aq a * Aq b * 2 ^ (Bz a + Bz b) := by
    rw [Nat.mul_mul_mul_comm, ← Nat.pow_add]
  obtain ⟨s1, s2⟩ := Dg (Aq a * Aq b) (Bz a + Bz b) (Ay a + Ay b)
  rw [← ev] at s1 s2
  generalize Aq a * 2 ^ Bz a * (Aq b * 2 ^ Bz b) = V at *
  rw [pack_hi v2, pack_lo, Ap (x := _ + _) (by rw [Ap (by omega) (by omega)]; omega) (by rw [Ap (by omega) (by omega)]; omega), Ap (by omega) (by omega)]
  have hw : Nn ((V / 2 ^ 44 : Nat) : Int) (Ay a - Bz a + (Ay b - Bz b) + 44) = true := Ar.2 ⟨by omega, by omega, by omega, by omega⟩
  rw [hw, cond_true]
  unfold Ea D9
  rw [Int.toNat_natCast, Sj n (V := V) (k := 44) (E := Ay a + Ay b - ((Bz a + Bz b : Nat) : Int)) (e := Ay a - Bz a + (Ay b - Bz b) + 44) (s := decide (V % 2 ^ 44 ≠ 0)) (by omega) rfl (by omega) (.inl (by omega)), s1, s2]
theorem kq (b k : Nat) : (((Ai b : Nat) : Int) == ((k : Nat) : Int)) = decide (Ai b = k) := by
  rw [Bool.eq_iff_iff]; simp only [beq_iff_eq, decide_eq_true_eq]; omega
theorem Xq (n : Bool) {r : Nat} (h : r < 2 ^ 63) : Qq n (r : Int) = ((Be n r : Nat) : Int) := by
  unfold Qq Be C0
  cases n
  · rfl
  · simp only [if_true]
    rw [Int.toNat_natCast, V3 h]
theorem inf_word (n : Bool) : Qq n (9218868437227405312 : Int) = ((Be n Dt : Nat) : Int) := Xq n (r := Dt) (by decide)
theorem Xi (n : Bool) : Qq n (0 : Int) = ((Be n 0 : Nat) : Int) := Xq n (r := 0) (by decide)
theorem Qc (b : Nat) : A7 (b : Int) = ((Ai b : Nat) : Int) := rfl
theorem nan_dec (a b : Nat) : nanI (a : Int) (b : Int) = (decide (Ai a = 4) || decide (Ai b = 4)) := by
  unfold nanI A7
  simp only [Int.toNat_natCast]
  rw [Bool.eq_iff_iff]
  simp only [Bool.or_eq_true, decide_eq_true_eq]
  omega
theorem k3 (b : Nat) : (((Ai b : Nat) : Int) == (3 : Int)) = decide (Ai b = 3) := kq b 3
theorem k0 (b : Nat) : (((Ai b : Nat) : Int) == (0 : Int)) = decide (Ai b = 0) := kq b 0
theorem times.Mul.known : times.Mul.Kn := times.Mul.Ac (.cons Ce.G3.known (.cons soft.Kind.known (.cons soft.Sign.known (.cons times.nan.known (.cons times.norm.known (.cons times.signed.known (.cons times.wide.known .nil))))))) fun a b hp => by
  obtain ⟨ha, hb⟩ := Ag.1 hp
  obtain ⟨a, rfl, hn⟩ := Bg ha
  obtain ⟨b, rfl, hm⟩ := Bg hb
  refine ⟨0, times.Mul.out [.i a, .i b], [], ?_, Wk.Gg (.cons .int (.cons .int .nil))⟩
  have i1 : Ah (9218868437227405312 : Int) = true := By (n := 9218868437227405312) (by decide)
  have i2 : Ah (0 : Int) = true := By (n := 0) (by decide)
  rw [times.Mul.ev, ha, hb, nan_dec, Qc, Qc, k3, k3, k0, k0, i1, i2, inf_word, Xi, Zl]
  show _ = some (DV.tup [.int .u64 (((Mi a b).1 : Nat) : Int), .int .u8 (((Mi a b).2 : Nat) : Int)])
  have ea : C6 (a : Int) = Bi a := rfl
  have eb : C6 (b : Int) = Bi b := rfl
  rw [ea, eb]
  unfold Mi
  simp only [Bool.and_self, cond_true]
  by_cases h4 : Ai a = 4 ∨ Ai b = 4
  · have c4 : (decide (Ai a = 4) || decide (Ai b = 4)) = true := by simp; exact h4
    rw [if_pos h4, c4, cond_true]; rfl
  · have c4 : (decide (Ai a = 4) || decide (Ai b = 4)) = false := by simp; omega
    rw [if_neg h4, c4, cond_false]
    by_cases h3 : Ai a = 3 ∨ Ai b = 3
    · rw [if_pos h3]
      by_cases h0 : Ai a = 0 ∨ Ai b = 0
      · have c0 : (decide (Ai a = 3) && decide (Ai b = 0) || decide (Ai a = 0) && decide (Ai b = 3)) = true := by simp; omega
        rw [if_pos h0, c0, cond_true]; rfl
      · have c0 : (decide (Ai a = 3) && decide (Ai b = 0) || decide (Ai a = 0) && decide (Ai b = 3)) = false := by simp; omega
        have c3 : (decide (Ai a = 3) || decide (Ai b = 3)) = true := by simp; omega
        rw [if_neg h0, c0, cond_false, c3, cond_true]; rfl
    · have c0 : (decide (Ai a = 3) && decide (Ai b = 0) || decide (Ai a = 0) && decide (Ai b = 3)) = false := by simp; omega
      have c3 : (decide (Ai a = 3) || decide (Ai b = 3)) = false := by simp; omega
      rw [if_neg h3, c0, cond_false, c3, cond_false]
      by_cases h0 : Ai a = 0 ∨ Ai b = 0
      · have c5 : (decide (Ai a = 0) || decide (Ai b = 0)) = true := by simp; exact h0
        have hz : Aq a * Aq b = 0 := by
          rcases h0 with h | h
          · rw [Tk h, Nat.zero_mul]
          · rw [Tk h, Nat.mul_zero]
        rw [c5, cond_true, hz, P4, Nz]; rfl
      · have c5 : (decide (Ai a = 0) || decide (Ai b = 0)) = false := by simp; omega
        have pa := M6 (b := a) (by omega) (by omega) (by omega)
        have pb := M6 (b := b) (by omega) (by omega) (by omega)
        have na : Ku (a : Int) = true := Ar.2 pa
        have nb : Ku (b : Int) = true := Ar.2 pb
        rw [c5, cond_false, na, nb, Bool.and_self, cond_true, cond_true]
        exact mul_num _ pa pb
theorem div_loop (N : Nat) {a b : Nat} {X Y : Nat} (hY : 0 < Y) (hY2 : Y < 2 ^ 53) (hX : X < 2 * Y) (em : Ci (b : Int) = (Y : Int)) : ∀ (k i : Nat), k + i = 61 →
    times.Div.L0 N (k + 1) a b ((X * 2 ^ i / Y : Nat) : Int) ((X * 2 ^ i % Y : Nat) : Int) (i : Int) =
      times.Div.L0 N 1 a b ((X * 2 ^ 61 / Y : Nat) : Int) ((X * 2 ^ 61 % Y : Nat) : Int) (61 : Int) := by
  intro k
  induction k with
  | zero =>
    intro i hi
    have : i = 61 := by omega
    subst this
    rfl
  | succ k ih =>
    intro i hi
    have hq : X * 2 ^ i / Y < 2 ^ 62 := by
      rw [Nat.div_lt_iff_lt_mul hY]
      have h1 : X * 2 ^ i < 2 * Y * 2 ^ i := (Nat.mul_lt_mul_right (B1 i)).2 hX
      have h2 : 2 * 2 ^ i ≤ 2 ^ 62 := by
        rw [Nat.mul_comm, ← Nat.pow_succ]; exact Nat.pow_le_pow_right (by decide) (by omega)
      have h3 : 2 * 2 ^ i * Y ≤ 2 ^ 62 * Y := Nat.mul_le_mul_right _ h2
      rw [Nat.mul_right_comm] at h1
      omega
    have hr : X * 2 ^ i % Y < Y := Nat.mod_lt _ hY
    have hd := Nat.div_add_mod (X * 2 ^ i) Y
    have e2 : X * 2 ^ (i + 1) = X * 2 ^ i * 2 := by rw [Nat.pow_succ, Nat.mul_assoc]
    rw [times.Div.Az, Aw, Ef, em, decide_eq_true (by omega), cond_true]
    have s1 : Bp .u64 ((X * 2 ^ i % Y : Nat) : Int) (1 : Int) = ((X * 2 ^ i % Y * 2 : Nat) : Int) := by
      have := Em (X * 2 ^ i % Y) 1 (by decide)
      rw [Nat.mod_eq_of_lt (a := X * 2 ^ i % Y * 2 ^ 1) (by omega)] at this
      exact this
    have s2 : Bp .u64 ((X * 2 ^ i / Y : Nat) : Int) (1 : Int) = ((X * 2 ^ i / Y * 2 ^ 1 : Nat) : Int) := by
      have := Em (X * 2 ^ i / Y) 1 (by decide)
      rw [Nat.mod_eq_of_lt (a := X * 2 ^ i / Y * 2 ^ 1) (by omega)] at this
      exact this
    have s3 : Gy .u64 ((X * 2 ^ i / Y * 2 ^ 1 : Nat) : Int) (1 : Int) = ((X * 2 ^ i / Y * 2 ^ 1 + 1 : Nat) : Int) := Ln (k := 1) (b := 1) (by decide) (by omega)
    have ei : Ab ((i : Int) + 1) = ((i + 1 : Nat) : Int) := by rw [Ap (by omega) (by omega)]; rfl
    rw [s1, s2, s3, ei]
    generalize hq' : X * 2 ^ i / Y = q at *
    generalize hr' : X * 2 ^ i % Y = r at *
    have step : ∀ c, X * 2 ^ i * 2 = Y * (2 * q + c) + (2 * r - c * Y) → c * Y ≤ 2 * r → 2 * r < c * Y + Y → X * 2 ^ (i + 1) / Y = 2 * q + c ∧ X * 2 ^ (i + 1) % Y = 2 * r - c * Y := fun c h1 h2 h3 => by
      rw [e2, h1]
      constructor
      · rw [Nat.mul_add_div hY, Nat.div_eq_of_lt (by omega)]; omega
      · rw [Nat.mul_add_mod, Nat.mod_eq_of_lt (by omega)]
    by_cases hc : Y ≤ r * 2
    · obtain ⟨t1, t2⟩ := step 1 (by rw [Nat.mul_add, Nat.mul_one, Nat.mul_left_comm]; omega) (by omega) (by omega)
      have := ih (i + 1) (by omega)
      rw [t1, t2] at this
      rw [decide_eq_true (by omega), cond_true, Cv (by omega) (by omega)]
      have e3 : ((r * 2 : Nat) : Int) - (Y : Int) = ((2 * r - 1 * Y : Nat) : Int) := by omega
      have e4 : q * 2 ^ 1 + 1 = 2 * q + 1 := by omega
      rw [e3, e4]
      exact this
    · obtain ⟨t1, t2⟩ := step 0 (by rw [Nat.add_zero, Nat.mul_left_comm]; omega) (by omega) (by omega)
      have := ih (i + 1) (by omega)
      rw [t1, t2] at this
      rw [decide_eq_false (by omega), cond_false]
      have e3 : r * 2 = 2 * r - 0 * Y := by omega
      have e4 : q * 2 ^ 1 = 2 * q + 0 := by omega
      rw [e3, e4]
      exact this
theorem div_num {a b : Nat} (ha : Aq a ≠ 0) (hb : Aq b ≠ 0) :
    times.Div.L0 62 62 a b (Bd (Int.tdiv (Ci a) (Ci b))) (Int.tmod (Ci a) (Ci b)) (0 : Int) =
      some (.tup [.int .u64 ((Be (Bi a != Bi b) (B5 (Ei (Aq a) (Aq b) 120) (Ay a - Ay b - 121)) : Nat) : Int), .int .u8 ((flagsOf (Ei (Aq a) (Aq b) 120) (Ay a - Ay b - 121) : Nat) : Int)]) := by
  obtain ⟨a1, a2, a3, a4⟩ := Nb ha
  obtain ⟨b1, b2, b3, b4⟩ := Nb hb
  have ea := D7 a
  have eb := D7 b
  have ma : Ci (a : Int) = ((Aq a * 2 ^ Bz a : Nat) : Int) := rfl
  have mb : Ci (b : Int) = ((Aq b * 2 ^ Bz b : Nat) : Int) := rfl
  have na : F4 (a : Int) = Ay a - Bz a := rfl
  have nb : F4 (b : Int) = Ay b - Bz b := rfl
  have sL := stick_left (Aq a) (Aq b * 2 ^ Bz b) (Bz a) 61
  have hpos : 0 < Aq b * 2 ^ Bz b := by omega
  have hq1 : 2 ^ 53 ≤ Aq a * 2 ^ Bz a * 2 ^ 61 / (Aq b * 2 ^ Bz b) := by
    rw [Nat.le_div_iff_mul_le hpos]; omega
  have hqq : 2 ^ 60 ≤ Aq a * 2 ^ Bz a * 2 ^ 61 / (Aq b * 2 ^ Bz b) := by
    rw [Nat.le_div_iff_mul_le hpos]; omega
  have hq2 : Aq a * 2 ^ Bz a * 2 ^ 61 / (Aq b * 2 ^ Bz b) < 2 ^ 62 := by
    rw [Nat.div_lt_iff_lt_mul hpos]; omega
  have hstick : Ei (Aq a * 2 ^ Bz a) (Aq b * 2 ^ Bz b) 61 = Ei (Aq a) (Aq b) (61 + Bz a - Bz b) := by
    rw [sL]
    have : 61 + Bz a = 61 + Bz a - Bz b + Bz b := by omega
    conv => lhs; rw [this]
    rw [stick_right]
  have hge1 : 2 ^ 53 ≤ Aq a * 2 ^ (61 + Bz a - Bz b) / Aq b := by
    have e1 : Aq a * 2 ^ Bz a * 2 ^ 61 = Aq a * 2 ^ (61 + Bz a - Bz b) * 2 ^ Bz b := by
      rw [Nat.mul_assoc, ← Nat.pow_add, Nat.mul_assoc, ← Nat.pow_add]
      congr 2
      omega
    rw [e1, Nat.mul_div_mul_right _ _ (B1 _)] at hq1
    exact hq1
  have hge2 : 2 ^ 53 ≤ Aq a * 2 ^ 120 / Aq b := quo_ge (t := 53) (by omega) (by omega) (by have := El b; omega) (by omega)
  obtain ⟨s1, s2⟩ := Vf (X := Aq a) (Y := Aq b) (K := 61 + Bz a - Bz b) (L := 120) (E := Ay a - Bz a - (Ay b - Bz b) - 61 - 1) (F := Ay a - Ay b - 121) (by omega) hge1 hge2 (by omega)
  have d1 : Bd (Int.tdiv (Ci a) (Ci b)) = ((Aq a * 2 ^ Bz a * 2 ^ 0 / (Aq b * 2 ^ Bz b) : Nat) : Int) := by
    rw [ma, mb, Ir, Nat.pow_zero, Nat.mul_one]
    have h1 := Nat.div_le_self (Aq a * 2 ^ Bz a) (Aq b * 2 ^ Bz b)
    have h2 : Aq a * 2 ^ Bz a / (Aq b * 2 ^ Bz b) < 2 ^ 64 := Nat.lt_of_le_of_lt h1 (Nat.lt_trans a3 (by decide))
    generalize Aq a * 2 ^ Bz a / (Aq b * 2 ^ Bz b) = q at h2 ⊢
    exact Cv (Int.natCast_nonneg q) (by omega)
  have d2 : Int.tmod (Ci a) (Ci b) = ((Aq a * 2 ^ Bz a * 2 ^ 0 % (Aq b * 2 ^ Bz b) : Nat) : Int) := by
    rw [ma, mb, Iq, Nat.pow_zero, Nat.mul_one]
  rw [d1, d2]
  have lp := div_loop 62 (a := a) (b := b) hpos b3 (X := Aq a * 2 ^ Bz a) (by omega) mb 61 0 (by omega)
  refine lp.trans ?_
  rw [times.Div.Az, Aw, na, nb, decide_eq_false (by omega), cond_false]
  have we : Ab (Ab (Ay a - Bz a - (Ay b - Bz b)) - 61) = Ay a - Bz a - (Ay b - Bz b) - 61 := by
    rw [Ap (x := Ay a - Bz a - (Ay b - Bz b)) (by omega) (by omega), Ap (by omega) (by omega)]
  have hne : (((Aq a * 2 ^ Bz a * 2 ^ 61 % (Aq b * 2 ^ Bz b) : Nat) : Int) != (0 : Int)) = decide (Aq a * 2 ^ Bz a * 2 ^ 61 % (Aq b * 2 ^ Bz b) ≠ 0) := by
    rw [Bool.eq_iff_iff]; simp only [bne_iff_ne, ne_eq, decide_eq_true_eq]; omega
  rw [we, hne]
  have hw : Nn ((Aq a * 2 ^ Bz a * 2 ^ 61 / (Aq b * 2 ^ Bz b) : Nat) : Int) (Ay a - Bz a - (Ay b - Bz b) - 61) = true := Ar.2 ⟨by omega, by omega, by omega, by omega⟩
  have hn : C6 (a : Int) = Bi a := rfl
  have hn' : C6 (b : Int) = Bi b := rfl
  rw [hw, cond_true, Zl, hn, hn']
  unfold Ea D9
  rw [Int.toNat_natCast, nearN_quo _ rfl rfl hq1, hstick, s1, s2]
theorem times.Div.known : times.Div.Kn := times.Div.Ac (.cons soft.Kind.known (.cons soft.Sign.known (.cons times.nan.known (.cons times.norm.known (.cons times.signed.known (.cons times.wide.known .nil)))))) fun a b hp => by
  obtain ⟨ha, hb⟩ := Ag.1 hp
  obtain ⟨a, rfl, hn⟩ := Bg ha
  obtain ⟨b, rfl, hm⟩ := Bg hb
  refine ⟨62, times.Div.out [.i a, .i b], [], ?_, Wk.Gg (.cons .int (.cons .int .nil))⟩
  have i1 : Ah (9218868437227405312 : Int) = true := By (n := 9218868437227405312) (by decide)
  have i2 : Ah (0 : Int) = true := By (n := 0) (by decide)
  rw [times.Div.ev, ha, hb, nan_dec, Qc, Qc, k3, k3, k0, k0, i1, i2, inf_word, Xi, Zl]
  show _ = some (DV.tup [.int .u64 (((Uo a b).1 : Nat) : Int), .int .u8 (((Uo a b).2 : Nat) : Int)])
  have ea : C6 (a : Int) = Bi a := rfl
  have eb : C6 (b : Int) = Bi b := rfl
  rw [ea, eb]
  unfold Uo
  rw [Bool.and_self, cond_true, cond_true, cond_true, cond_true, cond_true]
  by_cases h4 : Ai a = 4 ∨ Ai b = 4
  · have c4 : (decide (Ai a = 4) || decide (Ai b = 4)) = true := by simp; exact h4
    rw [if_pos h4, c4, cond_true]; rfl
  · have c4 : (decide (Ai a = 4) || decide (Ai b = 4)) = false := by simp; omega
    rw [if_neg h4, c4, cond_false]
    by_cases h1 : Ai a = Ai b ∧ (Ai a = 3 ∨ Ai a = 0)
    · have c1 : (decide (Ai a = 3) && decide (Ai b = 3) || decide (Ai a = 0) && decide (Ai b = 0)) = true := by simp; omega
      rw [if_pos h1, c1, cond_true]; rfl
    · have c1 : (decide (Ai a = 3) && decide (Ai b = 3) || decide (Ai a = 0) && decide (Ai b = 0)) = false := by simp; omega
      rw [if_neg h1, c1, cond_false]
      by_cases h2 : Ai a = 3
      · rw [if_pos h2, decide_eq_true h2, cond_true]; rfl
      · rw [if_neg h2, decide_eq_false h2, cond_false]
        by_cases h3 : Ai b = 3 ∨ Ai a = 0
        · have c3 : (decide (Ai b = 3) || decide (Ai a = 0)) = true := by simp; exact h3
          rw [if_pos h3, c3, cond_true]; rfl
        · have c3 : (decide (Ai b = 3) || decide (Ai a = 0)) = false := by simp; omega
          rw [if_neg h3, c3, cond_false]
          by_cases h5 : Ai b = 0
          · rw [if_pos h5, decide_eq_true h5, cond_true]; rfl
          · rw [if_neg h5, decide_eq_false h5, cond_false]
            have pa := M6 (b := a) (by omega) (by omega) (by omega)
            have pb := M6 (b := b) (by omega) (by omega) (by omega)
            have na : Ku (a : Int) = true := Ar.2 pa
            have nb : Ku (b : Int) = true := Ar.2 pb
            have hnb : (Ci (b : Int) != 0) = true := by
              obtain ⟨_, l2, _, _⟩ := Nb pb
              have mb : Ci (b : Int) = ((Aq b * 2 ^ Bz b : Nat) : Int) := rfl
              rw [mb]
              simp only [bne_iff_ne, ne_eq]
              omega
            rw [na, nb, hnb, Bool.and_self, cond_true, cond_true, cond_true, cond_true, div_num pa pb]
end Go.Proofs.S1
namespace Go.Proofs.S1
open Go Go.Den Go.Rnd Go.Proofs
set_option linter.unusedVariables false
set_option maxRecDepth 100000
namespace EqVec
theorem Eu : ∀ a : Bool, (((!a) || (a == true)) && true) = true := by decide
theorem I7 : ∀ a : Bool, ((!(a == true)) || ((((!(a == true)) || (a == true)) && true) && true)) = true := by decide
theorem H8 : ∀ a : Bool, ((!(a == true)) || true) = true := by decide
theorem Hr : ∀ a : Bool, (a && true) = a := by decide
theorem Ge : ∀ a b : Bool, ((a && b) && true) = (a && b) := by decide
def Ae.Add.A9 : List (Nat × Entry) := [(232, sum.Add.spec)]
def Ae.Add.E : Env := Bb (A8 Ae.Add.A9) (fun _ => false) (fun _ => none) (fun _ => none)
theorem Ae.Add.ev (N : Nat) (a b : Int) : A1 Ae.Add.E N Tryz.f226 (Ad Tryz.f226) [.int .u64 a, .int .u64 b] =
  bif (Ah a && Ah b) then
  some (.int .u64 (Kk a b))
  else none := by kernel_rfl
theorem Ae.Add.Ac (hk : A0 Tryz.prog Ae.Add.A9) (h : ∀ (a b : Int), Ae.Add.pre [.i a, .i b] = true → ∃ N dv drops, A1 Ae.Add.E N Tryz.f226 (Ad Tryz.f226) [.int .u64 a, .int .u64 b] = some dv ∧ Wk drops dv (Ae.Add.out [.i a, .i b])) : Am Tryz.prog 226 Ae.Add.spec :=
  Aj (A2 hk _ _ _) Tryz.func226 (by kernel_rfl) (by kernel_rfl) h
abbrev _root_.Go.Proofs.S1.Ae.Add.Kn : Prop := Am Tryz.prog 226 Ae.Add.spec
def Ae.Sub.A9 : List (Nat × Entry) := [(207, sum.Sub.spec)]
def Ae.Sub.E : Env := Bb (A8 Ae.Sub.A9) (fun _ => false) (fun _ => none) (fun _ => none)
theorem Ae.Sub.ev (N : Nat) (a b : Int) : A1 Ae.Sub.E N Tryz.f156 (Ad Tryz.f156) [.int .u64 a, .int .u64 b] =
  bif (Ah a && Ah b) then
  some (.int .u64 (Ep a b))
  else none := by kernel_rfl
theorem Ae.Sub.Ac (hk : A0 Tryz.prog Ae.Sub.A9) (h : ∀ (a b : Int), Ae.Sub.pre [.i a, .i b] = true → ∃ N dv drops, A1 Ae.Sub.E N Tryz.f156 (Ad Tryz.f156) [.int .u64 a, .int .u64 b] = some dv ∧ Wk drops dv (Ae.Sub.out [.i a, .i b])) : Am Tryz.prog 156 Ae.Sub.spec :=
  Aj (A2 hk _ _ _) Tryz.func156 (by kernel_rfl) (by kernel_rfl) h
abbrev _root_.Go.Proofs.S1.Ae.Sub.Kn : Prop := Am Tryz.prog 156 Ae.Sub.spec
def Ae.Mul.A9 : List (Nat × Entry) := [(208, times.Mul.spec)]
def Ae.Mul.E : Env := Bb (A8 Ae.Mul.A9) (fun _ => false) (fun _ => none) (fun _ => none)
theorem Ae.Mul.ev (N : Nat) (a b : Int) : A1 Ae.Mul.E N Tryz.f157 (Ad Tryz.f157) [.int .u64 a, .int .u64 b] =
  bif (Ah a && Ah b) then
  some (.int .u64 (Ed a b))
  else none := by kernel_rfl
theorem Ae.Mul.Ac (hk : A0 Tryz.prog Ae.Mul.A9) (h : ∀ (a b : Int), Ae.Mul.pre [.i a, .i b] = true → ∃ N dv drops, A1 Ae.Mul.E N Tryz.f157 (Ad Tryz.f157) [.int .u64 a, .int .u64 b] = some dv ∧ Wk drops dv (Ae.Mul.out [.i a, .i b])) : Am Tryz.prog 157 Ae.Mul.spec :=
  Aj (A2 hk _ _ _) Tryz.func157 (by kernel_rfl) (by kernel_rfl) h
abbrev _root_.Go.Proofs.S1.Ae.Mul.Kn : Prop := Am Tryz.prog 157 Ae.Mul.spec
def Ae.fit.A9 : List (Nat × Entry) := []
def Ae.fit.E : Env := Bb (A8 Ae.fit.A9) (fun _ => false) (fun _ => none) (fun _ => none)
theorem Ae.fit.ev (N : Nat) (x y : List Int) : A1 Ae.fit.E N Tryz.f225 (Ad Tryz.f225) [.ints .arg .u64 x, .ints .arg .u64 y] =
  some (.bool (bif ((List.length x : Int) == (List.length y : Int)) then (Ds (List.length x : Int) (64 : Int)) else false)) :=
  Eq.trans (by kernel_rfl)
  (Ax (H8 ((List.length x : Int) == (List.length y : Int))) (Ax (I7 ((List.length x : Int) == (List.length y : Int))) (Ax (I7 ((List.length x : Int) == (List.length y : Int))) (Ax (Eu ((List.length x : Int) == (List.length y : Int))) rfl))))
theorem Ae.fit.Ac (hk : A0 Tryz.prog Ae.fit.A9) (h : ∀ (x y : List Int), Ae.fit.pre [.l x, .l y] = true → ∃ N dv drops, A1 Ae.fit.E N Tryz.f225 (Ad Tryz.f225) [.ints .arg .u64 x, .ints .arg .u64 y] = some dv ∧ Wk drops dv (Ae.fit.out [.l x, .l y])) : Am Tryz.prog 225 Ae.fit.spec :=
  Aj (A2 hk _ _ _) Tryz.func225 (by kernel_rfl) (by kernel_rfl) h
abbrev _root_.Go.Proofs.S1.Ae.fit.Kn : Prop := Am Tryz.prog 225 Ae.fit.spec
def Ae.Oi.hint : Nat → Option Bf
  | 0 => some { keep := [0, 1, 6, 13, 14], objs := [], boxes := [] }
  | _ => none
def Ae.Oi.A9 : List (Nat × Entry) := [(226, Ae.Add.spec), (157, Ae.Mul.spec), (225, Ae.fit.spec)]
def Ae.Oi.E : Env := Bb (A8 Ae.Oi.A9) (fun _ => false) Ae.Oi.hint (fun _ => none)
def Ae.Oi.L0 (N M : Nat) (x y : List Int) (p6 p14 : Int) : Option DV := B6 Ae.Oi.E N Tryz.f189 (Ad Tryz.f189) [1, 1, 1, 0, 1, 0] [] M ⟨Hq 30 [(0, .ints .arg .u64 x), (1, .ints .arg .u64 y), (6, .int .u64 p6), (13, .int .i64 (List.length x : Int)), (14, .int .i64 p14)], []⟩
theorem Ae.Oi.Az (N M : Nat) (x y : List Int) (p6 p14 : Int) : Ae.Oi.L0 N (M + 1) x y p6 p14 =
  bif (A5 p14 (List.length x : Int)) then
  bif ((decide (0 ≤ p14)) && (decide (p14 < (List.length x : Int)))) then
  bif ((decide (0 ≤ p14)) && (decide (p14 < (List.length y : Int)))) then
  bif (Ah (List.getD x (Int.toNat p14) 0) && Ah (List.getD y (Int.toNat p14) 0)) then
  bif (Ah p6 && Ah (Ed (List.getD x (Int.toNat p14) 0) (List.getD y (Int.toNat p14) 0))) then
  Ae.Oi.L0 N M x y (Kk p6 (Ed (List.getD x (Int.toNat p14) 0) (List.getD y (Int.toNat p14) 0))) (Ab (p14 + (1 : Int)))
  else none
  else none
  else none
  else none
  else some (.tup [.int .u64 p6, .int .i64 0]) :=
  Eq.trans (by kernel_rfl)
  (Fb (C1 (Ge (decide (0 ≤ p14)) (decide (p14 < (List.length x : Int)))) (C1 (Ge (decide (0 ≤ p14)) (decide (p14 < (List.length y : Int)))) (C1 (Hr (Ah (List.getD x (Int.toNat p14) 0) && Ah (List.getD y (Int.toNat p14) 0))) (C1 (Hr (Ah p6 && Ah (Ed (List.getD x (Int.toNat p14) 0) (List.getD y (Int.toNat p14) 0)))) rfl rfl) rfl) rfl) rfl) rfl)
theorem Ae.Oi.ev (N : Nat) (x y : List Int) : A1 Ae.Oi.E N Tryz.f189 (Ad Tryz.f189) [.ints .arg .u64 x, .ints .arg .u64 y] =
  bif (!(Tt x y)) then
  some (.tup [.int .u64 0, .int .i64 3])
  else Ae.Oi.L0 N N x y (0 : Int) (0 : Int) := by kernel_rfl
theorem Ae.Oi.Ac (hk : A0 Tryz.prog Ae.Oi.A9) (h : ∀ (x y : List Int), Ae.Oi.pre [.l x, .l y] = true → ∃ N dv drops, A1 Ae.Oi.E N Tryz.f189 (Ad Tryz.f189) [.ints .arg .u64 x, .ints .arg .u64 y] = some dv ∧ Wk drops dv (Ae.Oi.out [.l x, .l y])) : Am Tryz.prog 189 Ae.Oi.spec :=
  Aj (A2 hk _ _ _) Tryz.func189 (by kernel_rfl) (by kernel_rfl) h
abbrev _root_.Go.Proofs.S1.Ae.Oi.Kn : Prop := Am Tryz.prog 189 Ae.Oi.spec
def Av.F.A9 : List (Nat × Entry) := []
def Av.F.E : Env := Bb (A8 Av.F.A9) (fun _ => false) (fun _ => none) (fun _ => none)
theorem Av.F.ev (N : Nat) (x : Int) : A1 Av.F.E N Tryz.f159 (Ad Tryz.f159) [.int .u64 x] =
  bif (decide (0 ≤ x)) then
  some (.fl (Int.toNat x))
  else none := by kernel_rfl
theorem Av.F.Ac (hk : A0 Tryz.prog Av.F.A9) (h : ∀ (x : Int), Av.F.pre [.i x] = true → ∃ N dv drops, A1 Av.F.E N Tryz.f159 (Ad Tryz.f159) [.int .u64 x] = some dv ∧ Wk drops dv (Av.F.out [.i x])) : Am Tryz.prog 159 Av.F.spec :=
  Aj (A2 hk _ _ _) Tryz.func159 (by kernel_rfl) (by kernel_rfl) h
abbrev _root_.Go.Proofs.S1.Av.F.Kn : Prop := Am Tryz.prog 159 Av.F.spec
def Av.B.A9 : List (Nat × Entry) := [(168, D6.Canon.nb.spec)]
def Av.B.E : Env := Bb (A8 Av.B.A9) (fun _ => false) (fun _ => none) (fun _ => none)
theorem Av.B.ev (N x : Nat) : A1 Av.B.E N Tryz.f102 (Ad Tryz.f102) [.fl x] =
  some (.int .u64 (Gx x)) := by kernel_rfl
theorem Av.B.Ac (hk : A0 Tryz.prog Av.B.A9) (h : ∀ (x : Nat), Av.B.pre [.f x] = true → ∃ N dv drops, A1 Av.B.E N Tryz.f102 (Ad Tryz.f102) [.fl x] = some dv ∧ Wk drops dv (Av.B.out [.f x])) : Am Tryz.prog 102 Av.B.spec :=
  Aj (A2 hk _ _ _) Tryz.func102 (by kernel_rfl) (by kernel_rfl) h
abbrev _root_.Go.Proofs.S1.Av.B.Kn : Prop := Am Tryz.prog 102 Av.B.spec
def Av.Sub.A9 : List (Nat × Entry) := [(102, Av.B.spec), (159, Av.F.spec)]
def Av.Sub.E : Env := Bb (A8 Av.Sub.A9) (fun _ => false) (fun _ => none) (fun _ => none)
theorem Av.Sub.ev (N : Nat) (a b : Int) : A1 Av.Sub.E N Tryz.f81 (Ad Tryz.f81) [.int .u64 a, .int .u64 b] =
  bif (Ah a) then
  bif (Ah b) then
  some (.int .u64 (Gx ((Ieee.double.sub (Int.toNat a) (Int.toNat b)).getD nanBits)))
  else none
  else none := by kernel_rfl
theorem Av.Sub.Ac (hk : A0 Tryz.prog Av.Sub.A9) (h : ∀ (a b : Int), Av.Sub.pre [.i a, .i b] = true → ∃ N dv drops, A1 Av.Sub.E N Tryz.f81 (Ad Tryz.f81) [.int .u64 a, .int .u64 b] = some dv ∧ Wk drops dv (Av.Sub.out [.i a, .i b])) : Am Tryz.prog 81 Av.Sub.spec :=
  Aj (A2 hk _ _ _) Tryz.func81 (by kernel_rfl) (by kernel_rfl) h
abbrev _root_.Go.Proofs.S1.Av.Sub.Kn : Prop := Am Tryz.prog 81 Av.Sub.spec
def Av.Mul.A9 : List (Nat × Entry) := [(102, Av.B.spec), (159, Av.F.spec)]
def Av.Mul.E : Env := Bb (A8 Av.Mul.A9) (fun _ => false) (fun _ => none) (fun _ => none)
theorem Av.Mul.ev (N : Nat) (a b : Int) : A1 Av.Mul.E N Tryz.f82 (Ad Tryz.f82) [.int .u64 a, .int .u64 b] =
  bif (Ah a) then
  bif (Ah b) then
  some (.int .u64 (Gx ((Ieee.double.mul (Int.toNat a) (Int.toNat b)).getD nanBits)))
  else none
  else none := by kernel_rfl
theorem Av.Mul.Ac (hk : A0 Tryz.prog Av.Mul.A9) (h : ∀ (a b : Int), Av.Mul.pre [.i a, .i b] = true → ∃ N dv drops, A1 Av.Mul.E N Tryz.f82 (Ad Tryz.f82) [.int .u64 a, .int .u64 b] = some dv ∧ Wk drops dv (Av.Mul.out [.i a, .i b])) : Am Tryz.prog 82 Av.Mul.spec :=
  Aj (A2 hk _ _ _) Tryz.func82 (by kernel_rfl) (by kernel_rfl) h
abbrev _root_.Go.Proofs.S1.Av.Mul.Kn : Prop := Am Tryz.prog 82 Av.Mul.spec
def Av.D4.hint : Nat → Option Bf
  | 0 => some { keep := [0, 1, 5], objs := [], boxes := [] }
  | _ => none
def Av.D4.A9 : List (Nat × Entry) := []
def Av.D4.E : Env := Bb (A8 Av.D4.A9) (fun _ => false) Av.D4.hint (fun _ => none)
def Av.D4.L0 (N M : Nat) (x y : List Int) (p5 : Int) : Option DV := B6 Av.D4.E N Tryz.f99 (Ad Tryz.f99) [1, 1, 0, 1, 0] [] M ⟨Hq 26 [(0, .ints .arg .u64 x), (1, .ints .arg .u64 y), (5, .int .i64 p5)], []⟩
theorem Av.D4.Az (N M : Nat) (x y : List Int) (p5 : Int) : Av.D4.L0 N (M + 1) x y p5 =
  bif (A5 p5 (List.length x : Int)) then
  bif ((decide (0 ≤ p5)) && (decide (p5 < (List.length x : Int)))) then
  bif ((decide (0 ≤ p5)) && (decide (p5 < (List.length y : Int)))) then
  bif ((List.getD x (Int.toNat p5) 0) != (List.getD y (Int.toNat p5) 0)) then
  some (.bool false)
  else Av.D4.L0 N M x y (Ab (p5 + (1 : Int)))
  else none
  else none
  else some (.bool true) :=
  Eq.trans (by kernel_rfl)
  (Fb (C1 (Ge (decide (0 ≤ p5)) (decide (p5 < (List.length x : Int)))) (C1 (Ge (decide (0 ≤ p5)) (decide (p5 < (List.length y : Int)))) rfl rfl) rfl) rfl)
theorem Av.D4.ev (N : Nat) (x y : List Int) : A1 Av.D4.E N Tryz.f99 (Ad Tryz.f99) [.ints .arg .u64 x, .ints .arg .u64 y] =
  bif ((List.length x : Int) != (List.length y : Int)) then
  some (.bool false)
  else Av.D4.L0 N N x y (0 : Int) := by kernel_rfl
theorem Av.D4.Ac (hk : A0 Tryz.prog Av.D4.A9) (h : ∀ (x y : List Int), Av.D4.pre [.l x, .l y] = true → ∃ N dv drops, A1 Av.D4.E N Tryz.f99 (Ad Tryz.f99) [.ints .arg .u64 x, .ints .arg .u64 y] = some dv ∧ Wk drops dv (Av.D4.out [.l x, .l y])) : Am Tryz.prog 99 Av.D4.spec :=
  Aj (A2 hk _ _ _) Tryz.func99 (by kernel_rfl) (by kernel_rfl) h
abbrev _root_.Go.Proofs.S1.Av.D4.Kn : Prop := Am Tryz.prog 99 Av.D4.spec
end EqVec
end Go.Proofs.S1
namespace Go.Proofs.S1
open Go Go.Den Go.Rnd Go.Proofs Ieee
open EqVec
theorem Sh {b : Nat} (h3 : Ai b ≠ 3) (h4 : Ai b ≠ 4) : Aq b = 0 ↔ Ai b = 0 :=
  ⟨fun h => by
    by_cases h0 : Ai b = 0
    · exact h0
    · exact absurd h (M6 h0 h3 h4), Tk⟩
theorem La (s : Bool) : Dj (Be s Dt) = Be s Dt := He s (Nat.le_refl _)
theorem Sl {a b : Nat} (ha : a < 2 ^ 64) (hb : b < 2 ^ 64) {d : Nat} (hd : Ai d = 4) : Dj ((Ieee.double.mul a b).getD d) = (Mi a b).1 := by
  have cd : Dj d = Pu := if_pos hd
  have ex : ∀ s t : Bool, (s ^^ t) = (s != t) := fun s t => by cases s <;> cases t <;> rfl
  unfold Format.mul
  rw [Jp ha, Jp hb]
  unfold Mi
  by_cases a4 : Ai a = 4
  · rw [if_pos (.inl a4), Gn a4]; exact cd
  · by_cases b4 : Ai b = 4
    · rw [if_pos (.inr b4), Gn b4]
      by_cases a3 : Ai a = 3
      · rw [Dx a3]; exact cd
      · rw [Dw a3 a4]; exact cd
    · rw [if_neg (fun h => h.elim a4 b4)]
      by_cases a3 : Ai a = 3
      · rw [if_pos (.inl a3), Dx a3]
        by_cases b3 : Ai b = 3
        · rw [Dx b3, if_neg (by omega)]
          show Dj (Be (Bi a ^^ Bi b) Dt) = _
          rw [La, ex]
        · rw [Dw b3 b4]
          have z := Sh b3 b4
          by_cases b0 : Ai b = 0
          · have e : (Datum.infinity (Bi a)).product (.number (Bi b) (Aq b) (Ay b)) = none := if_pos (z.2 b0)
            rw [e, if_pos (.inr b0)]; exact cd
          · have e : (Datum.infinity (Bi a)).product (.number (Bi b) (Aq b) (Ay b)) = some (.infinity (Bi a ^^ Bi b)) := if_neg (fun k => b0 (z.1 k))
            rw [e, if_neg (by omega)]
            show Dj (Be (Bi a ^^ Bi b) Dt) = _
            rw [La, ex]
      · rw [Dw a3 a4]
        have z := Sh a3 a4
        by_cases b3 : Ai b = 3
        · rw [if_pos (.inr b3), Dx b3]
          have sw : ∀ s t : Bool, (t ^^ s) = (s != t) := fun s t => by cases s <;> cases t <;> rfl
          by_cases a0 : Ai a = 0
          · have e : (Datum.number (Bi a) (Aq a) (Ay a)).product (.infinity (Bi b)) = none := if_pos (z.2 a0)
            rw [e, if_pos (.inl a0)]; exact cd
          · have e : (Datum.number (Bi a) (Aq a) (Ay a)).product (.infinity (Bi b)) = some (.infinity (Bi b ^^ Bi a)) := if_neg (fun k => a0 (z.1 k))
            rw [e, if_neg (by omega)]
            show Dj (Be (Bi b ^^ Bi a) Dt) = _
            rw [La, sw]
        · rw [Dw b3 b4, if_neg (by omega)]
          show Dj (Ieee.double.write (.number (Bi a ^^ Bi b) (Aq a * Aq b) (Ay a + Ay b))) = _
          rw [Px, He _ (L4 _ _), ex]
theorem Hl : Ai nanBits = 4 := by decide +kernel
theorem Ae.Add.known : Ae.Add.Kn := Ae.Add.Ac (.cons sum.Add.known .nil) fun a b hp => by
  have hp : (Ah a && Ah b) = true := hp
  refine ⟨0, Ae.Add.out [.i a, .i b], [], ?_, .int⟩
  rw [Ae.Add.ev, hp]; rfl
theorem Ae.Sub.known : Ae.Sub.Kn := Ae.Sub.Ac (.cons sum.Sub.known .nil) fun a b hp => by
  have hp : (Ah a && Ah b) = true := hp
  refine ⟨0, Ae.Sub.out [.i a, .i b], [], ?_, .int⟩
  rw [Ae.Sub.ev, hp]; rfl
theorem Ae.Mul.known : Ae.Mul.Kn := Ae.Mul.Ac (.cons times.Mul.known .nil) fun a b hp => by
  have hp : (Ah a && Ah b) = true := hp
  refine ⟨0, Ae.Mul.out [.i a, .i b], [], ?_, .int⟩
  rw [Ae.Mul.ev, hp]; rfl
theorem fit_code (x y : List Int) : (bif ((List.length x : Int) == (List.length y : Int)) then (Ds (List.length x : Int) (64 : Int)) else false) = Tt x y := by
  unfold Tt
  rw [Ef, Bool.eq_iff_iff]
  by_cases h : x.length = y.length
  · have : ((x.length : Int) == (y.length : Int)) = true := by rw [beq_iff_eq]; omega
    rw [this, cond_true, decide_eq_true h, Bool.true_and, decide_eq_true_eq, decide_eq_true_eq]; omega
  · have : ((x.length : Int) == (y.length : Int)) = false := by rw [beq_eq_false_iff_ne]; omega
    rw [this, cond_false, decide_eq_false h, Bool.false_and]
theorem Ae.fit.known : Ae.fit.Kn := Ae.fit.Ac .nil fun x y _ => by
  refine ⟨0, Ae.fit.out [.l x, .l y], [], ?_, .bool⟩
  rw [Ae.fit.ev, fit_code]; rfl
theorem Z1 {x y : List Int} : Tt x y = true ↔ x.length = y.length ∧ x.length ≤ 64 := by unfold Tt; simp
theorem S2 {l : List Int} {i : Nat} (h : i < l.length) : l.drop i = l.getD i 0 :: l.drop (i + 1) := by
  rw [List.drop_eq_getElem_cons h, List.getD_eq_getElem?_getD, List.getElem?_eq_getElem h]; rfl
theorem dot_step {x y : List Int} {i : Nat} (s : Nat) (hx : i < x.length) (hy : i < y.length) :
    dotP s (x.drop i) (y.drop i) = dotP (Kf s (Mi (x.getD i 0).toNat (y.getD i 0).toNat).1).1 (x.drop (i + 1)) (y.drop (i + 1)) := by
  rw [S2 hx, S2 hy]; rfl
theorem dot_loop (N : Nat) {x y : List Int} (hf : Tt x y = true) (hx : An x = true) (hy : An y = true) : ∀ (k i F s : Nat), i + k = x.length → k < F → s < 2 ^ 64 →
    Ae.Oi.L0 N F x y (s : Int) (i : Int) = some (.tup [.int .u64 ((dotP s (x.drop i) (y.drop i) : Nat) : Int), .int .i64 (0 : Int)]) := by
  obtain ⟨h1, h2⟩ := Z1.1 hf
  intro k
  induction k with
  | zero =>
    intro i F s hi hF hs
    obtain ⟨F, rfl⟩ : ∃ G, F = G + 1 := ⟨F - 1, by omega⟩
    rw [Ae.Oi.Az, Aw, decide_eq_false (by omega), cond_false, List.drop_of_length_le (by omega)]
    rfl
  | succ k ih =>
    intro i F s hi hF hs
    obtain ⟨F, rfl⟩ : ∃ G, F = G + 1 := ⟨F - 1, by omega⟩
    have c1 : decide ((i : Int) < (x.length : Int)) = true := decide_eq_true (by omega)
    have c2 : decide ((i : Int) < (y.length : Int)) = true := decide_eq_true (by omega)
    have c3 : decide ((0 : Int) ≤ (i : Int)) = true := decide_eq_true (by omega)
    have g1 := Aai hx (show i < x.length by omega)
    have g2 := Aai hy (show i < y.length by omega)
    have em : Ed (x.getD i 0) (y.getD i 0) = (((Mi (x.getD i 0).toNat (y.getD i 0).toNat).1 : Nat) : Int) := rfl
    have ea : ∀ t : Nat, Kk (s : Int) (t : Int) = (((Kf s t).1 : Nat) : Int) := fun t => rfl
    rw [Ae.Oi.Az, Aw, c1, c2, c3, Int.toNat_natCast, g1, g2, em, ea, By hs, By U0, Bool.and_self, cond_true, cond_true, cond_true, cond_true, cond_true, Ap (by omega) (by omega), dot_step s (by omega) (by omega)]
    exact ih (i + 1) F _ (by omega) (by omega) (U6 hs U0).1
theorem Ae.Oi.known : Ae.Oi.Kn := Ae.Oi.Ac (.cons Ae.Add.known (.cons Ae.Mul.known (.cons Ae.fit.known .nil))) fun x y hp => by
  obtain ⟨h1, hy⟩ := Ag.1 hp
  obtain ⟨hf, hx⟩ := Ag.1 h1
  refine ⟨x.length + 1, Ae.Oi.out [.l x, .l y], [], ?_, Wk.Gg (.cons .int (.cons .int .nil))⟩
  rw [Ae.Oi.ev, hf, Bool.not_true, cond_false]
  exact dot_loop _ hf hx hy x.length 0 _ 0 (by omega) (by omega) (by decide)
theorem Av.F.known : Av.F.Kn := Av.F.Ac .nil fun x hp => by
  obtain ⟨n, rfl, hn⟩ := Bg (x := x) hp
  refine ⟨0, Av.F.out [.i n], [], ?_, .fl⟩
  rw [Av.F.ev, decide_eq_true (Int.natCast_nonneg n)]; rfl
theorem Av.B.known : Av.B.Kn := Av.B.Ac (.cons D6.Canon.nb_known .nil) fun x _ => by
  refine ⟨0, Av.B.out [.f x], [], ?_, .int⟩
  rw [Av.B.ev]; rfl
theorem Av.Sub.known : Av.Sub.Kn := Av.Sub.Ac (.cons Av.B.known (.cons Av.F.known .nil)) fun a b hp => by
  obtain ⟨ha, hb⟩ := Ag.1 hp
  obtain ⟨a, rfl, hn⟩ := Bg ha
  obtain ⟨b, rfl, hm⟩ := Bg hb
  refine ⟨0, Av.Sub.out [.i a, .i b], [], ?_, .int⟩
  rw [Av.Sub.ev, ha, hb, Int.toNat_natCast, Int.toNat_natCast]
  unfold Gx
  rw [sub_ieee hn hm Hl]; rfl
theorem Av.Mul.known : Av.Mul.Kn := Av.Mul.Ac (.cons Av.B.known (.cons Av.F.known .nil)) fun a b hp => by
  obtain ⟨ha, hb⟩ := Ag.1 hp
  obtain ⟨a, rfl, hn⟩ := Bg ha
  obtain ⟨b, rfl, hm⟩ := Bg hb
  refine ⟨0, Av.Mul.out [.i a, .i b], [], ?_, .int⟩
  rw [Av.Mul.ev, ha, hb, Int.toNat_natCast, Int.toNat_natCast]
  unfold Gx
  rw [Sl hn hm Hl]; rfl
theorem same_loop (N : Nat) (x y : List Int) (hl : x.length = y.length) (hb : x.length < 2 ^ 62) : ∀ (k i F : Nat), i + k = x.length → k < F →
    Av.D4.L0 N F x y (i : Int) = some (.bool (R6 (x.drop i) (y.drop i))) := by
  intro k
  induction k with
  | zero =>
    intro i F hi hF
    obtain ⟨F, rfl⟩ : ∃ G, F = G + 1 := ⟨F - 1, by omega⟩
    rw [Av.D4.Az, Aw, decide_eq_false (by omega), cond_false, List.drop_of_length_le (by omega), List.drop_of_length_le (by omega)]
    rfl
  | succ k ih =>
    intro i F hi hF
    obtain ⟨F, rfl⟩ : ∃ G, F = G + 1 := ⟨F - 1, by omega⟩
    have c1 : decide ((i : Int) < (x.length : Int)) = true := decide_eq_true (by omega)
    have c2 : decide ((i : Int) < (y.length : Int)) = true := decide_eq_true (by omega)
    have c3 : decide ((0 : Int) ≤ (i : Int)) = true := decide_eq_true (by omega)
    rw [Av.D4.Az, Aw, c1, c2, c3, Int.toNat_natCast, S2 (show i < x.length by omega), S2 (show i < y.length by omega)]
    unfold R6
    by_cases h : x.getD i 0 = y.getD i 0
    · have : (x.getD i 0 != y.getD i 0) = false := by rw [h]; simp
      have ih := ih (i + 1) F (by omega) (by omega)
      unfold R6 at ih
      rw [this, Bool.and_self, cond_true, cond_true, cond_true, cond_false, Ap (by omega) (by omega)]
      refine ih.trans ?_
      rw [h]
      simp
    · have : (x.getD i 0 != y.getD i 0) = true := by simpa using h
      rw [this, Bool.and_self, cond_true, cond_true, cond_true, cond_true]
      simp only [List.cons.injEq, h, false_and, decide_false]
theorem Av.D4.known : Av.D4.Kn := Av.D4.Ac .nil fun x y hp => by
  have hp := Ar.1 (show Ob x = true from hp)
  refine ⟨x.length + 1, Av.D4.out [.l x, .l y], [], ?_, .bool⟩
  rw [Av.D4.ev]
  by_cases h : x.length = y.length
  · have : ((x.length : Int) != (y.length : Int)) = false := by rw [h]; simp
    rw [this, cond_false]
    exact same_loop _ x y h (by omega) x.length 0 _ (by omega) (by omega)
  · have : ((x.length : Int) != (y.length : Int)) = true := by simp only [bne_iff_ne, ne_eq]; omega
    rw [this, cond_true]
    have e : R6 x y = false := decide_eq_false fun k => h (by rw [k])
    show _ = some (DV.bool (R6 x y))
    rw [e]
end Go.Proofs.S1
namespace Go.Proofs.S1
open Go Go.Den Go.Rnd Go.Proofs
set_option linter.unusedVariables false
set_option maxRecDepth 100000
namespace EqMat
theorem Eu : ∀ a : Bool, (((!a) || (a == true)) && true) = true := by decide
theorem I7 : ∀ a : Bool, ((!(a == true)) || ((((!(a == true)) || (a == true)) && true) && true)) = true := by decide
theorem H8 : ∀ a : Bool, ((!(a == true)) || true) = true := by decide
theorem Hr : ∀ a b c : Bool, (bif (bif (!a) then true else (!b)) then true else c) = (((!a) || (!b)) || c) := by decide
theorem Ge : ∀ a b : Bool, ((!(!(bif (!a) then true else (!b)))) || ((bif (!a) then true else (!b)) == false)) = true := by decide
theorem Kb : ∀ a b : Bool, ((!((bif (!a) then true else (!b)) == false)) || ((((!((bif (!a) then true else (!b)) == false)) || ((bif (!a) then true else (!b)) == false)) && (((!((bif (!a) then true else (!b)) == false)) || ((bif (!a) then true else (!b)) == false)) && true)) && true)) = true := by decide
theorem Lu : ∀ a b : Bool, ((!((bif (!a) then true else (!b)) == false)) || ((((!((bif (!a) then true else (!b)) == false)) || ((bif (!a) then true else (!b)) == false)) && true) && true)) = true := by decide
theorem Ld : ∀ a b : Bool, ((!((bif (!a) then true else (!b)) == false)) || true) = true := by decide
theorem Qk : ∀ a : Bool, ((!(!(!a))) || ((!a) == false)) = true := by decide
theorem Ru : ∀ a : Bool, ((!((!a) == false)) || ((((!((!a) == false)) || ((!a) == false)) && true) && true)) = true := by decide
theorem Ho : ∀ a : Bool, ((!((!a) == false)) || true) = true := by decide
theorem Ip : ∀ a b : Bool, (bif a then true else b) = (a || b) := by decide
theorem I8 : ∀ a : Bool, ((!(!a)) || (a == false)) = true := by decide
theorem Kl : ∀ a : Bool, ((!(a == false)) || ((((!(a == false)) || (a == false)) && true) && true)) = true := by decide
theorem Mv : ∀ a : Bool, ((!(a == false)) || true) = true := by decide
theorem Mu : ∀ a b c d : Bool, (((a && b) && (c && d)) && true) = ((a && b) && (c && d)) := by decide
theorem Rv : ∀ a : Bool, (a && true) = a := by decide
def Aa.size.A9 : List (Nat × Entry) := []
def Aa.size.E : Env := Bb (A8 Aa.size.A9) (fun _ => false) (fun _ => none) (fun _ => none)
theorem Aa.size.ev (N : Nat) (n : Int) : A1 Aa.size.E N Tryz.f204 (Ad Tryz.f204) [.int .i64 n] =
  some (.bool (bif (Ds (0 : Int) n) then (Ds n (6 : Int)) else false)) :=
  Eq.trans (by kernel_rfl)
  (Ax (H8 (Ds (0 : Int) n)) (Ax (I7 (Ds (0 : Int) n)) (Ax (Eu (Ds (0 : Int) n)) rfl)))
theorem Aa.size.Ac (hk : A0 Tryz.prog Aa.size.A9) (h : ∀ (n : Int), Aa.size.pre [.i n] = true → ∃ N dv drops, A1 Aa.size.E N Tryz.f204 (Ad Tryz.f204) [.int .i64 n] = some dv ∧ Wk drops dv (Aa.size.out [.i n])) : Am Tryz.prog 204 Aa.size.spec :=
  Aj (A2 hk _ _ _) Tryz.func204 (by kernel_rfl) (by kernel_rfl) h
abbrev _root_.Go.Proofs.S1.Aa.size.Kn : Prop := Am Tryz.prog 204 Aa.size.spec
def Aa.Check.A9 : List (Nat × Entry) := [(204, Aa.size.spec)]
def Aa.Check.E : Env := Bb (A8 Aa.Check.A9) (fun _ => false) (fun _ => none) (fun _ => none)
theorem Aa.Check.ev (N : Nat) (r c : Int) (l : List Int) : A1 Aa.Check.E N Tryz.f160 (Ad Tryz.f160) [.agg [.int .i64 r, .int .i64 c, .ints .arg .u64 l]] =
  bif (((!(Bs r)) || (!(Bs c))) || ((List.length l : Int) != (Ab (r * c)))) then
  some (.int .i64 1)
  else some (.int .i64 0) :=
  Eq.trans (by kernel_rfl)
  (Ax (Ho (Bs r)) (Ax (Ru (Bs r)) (Ax (Ru (Bs r)) (Ax (Ru (Bs r)) (Ax (Qk (Bs r)) (Ax (Ld (Bs r) (Bs c)) (Ax (Lu (Bs r) (Bs c)) (Ax (Lu (Bs r) (Bs c)) (Ax (Ld (Bs r) (Bs c)) (Ax (Lu (Bs r) (Bs c)) (Ax (Ld (Bs r) (Bs c)) (Ax (Lu (Bs r) (Bs c)) (Ax (Kb (Bs r) (Bs c)) (Ax (Kb (Bs r) (Bs c)) (Ax (Ge (Bs r) (Bs c)) (C1 (Hr (Bs r) (Bs c) ((List.length l : Int) != (Ab (r * c)))) rfl rfl))))))))))))))))
theorem Aa.Check.Ac (hk : A0 Tryz.prog Aa.Check.A9) (h : ∀ (r c : Int) (l : List Int), Aa.Check.pre [.i r, .i c, .l l] = true → ∃ N dv drops, A1 Aa.Check.E N Tryz.f160 (Ad Tryz.f160) [.agg [.int .i64 r, .int .i64 c, .ints .arg .u64 l]] = some dv ∧ Wk drops dv (Aa.Check.out [.i r, .i c, .l l])) : Am Tryz.prog 160 Aa.Check.spec :=
  Aj (A2 hk _ _ _) Tryz.func160 (by kernel_rfl) (by kernel_rfl) h
abbrev _root_.Go.Proofs.S1.Aa.Check.Kn : Prop := Am Tryz.prog 160 Aa.Check.spec
def Aa.get.A9 : List (Nat × Entry) := []
def Aa.get.E : Env := Bb (A8 Aa.get.A9) (fun _ => false) (fun _ => none) (fun _ => none)
theorem Aa.get.ev (N : Nat) (r c : Int) (l : List Int) (i k : Int) : A1 Aa.get.E N Tryz.f193 (Ad Tryz.f193) [.agg [.int .i64 r, .int .i64 c, .ints .arg .u64 l], .int .i64 i, .int .i64 k] =
  bif ((decide (0 ≤ (Ab ((Ab (i * c)) + k)))) && (decide ((Ab ((Ab (i * c)) + k)) < (List.length l : Int)))) then
  some (.int .u64 (List.getD l (Int.toNat (Ab ((Ab (i * c)) + k))) 0))
  else none := by kernel_rfl
theorem Aa.get.Ac (hk : A0 Tryz.prog Aa.get.A9) (h : ∀ (r c : Int) (l : List Int) (i k : Int), Aa.get.pre [.i r, .i c, .l l, .i i, .i k] = true → ∃ N dv drops, A1 Aa.get.E N Tryz.f193 (Ad Tryz.f193) [.agg [.int .i64 r, .int .i64 c, .ints .arg .u64 l], .int .i64 i, .int .i64 k] = some dv ∧ Wk drops dv (Aa.get.out [.i r, .i c, .l l, .i i, .i k])) : Am Tryz.prog 193 Aa.get.spec :=
  Aj (A2 hk _ _ _) Tryz.func193 (by kernel_rfl) (by kernel_rfl) h
abbrev _root_.Go.Proofs.S1.Aa.get.Kn : Prop := Am Tryz.prog 193 Aa.get.spec
def Aa.two.A9 : List (Nat × Entry) := [(160, Aa.Check.spec)]
def Aa.two.E : Env := Bb (A8 Aa.two.A9) (fun _ => false) (fun _ => none) (fun _ => none)
theorem Aa.two.ev (N : Nat) (r c : Int) (l : List Int) (p q : Int) (m : List Int) : A1 Aa.two.E N Tryz.f186 (Ad Tryz.f186) [.agg [.int .i64 r, .int .i64 c, .ints .arg .u64 l], .agg [.int .i64 p, .int .i64 q, .ints .arg .u64 m]] =
  bif (((Jm r c l) != (0 : Int)) || ((Jm p q m) != (0 : Int))) then
  some (.int .i64 1)
  else some (.int .i64 0) :=
  Eq.trans (by kernel_rfl)
  (Ax (Mv ((Jm r c l) != (0 : Int))) (Ax (Kl ((Jm r c l) != (0 : Int))) (Ax (Kl ((Jm r c l) != (0 : Int))) (Ax (I8 ((Jm r c l) != (0 : Int))) (C1 (Ip ((Jm r c l) != (0 : Int)) ((Jm p q m) != (0 : Int))) rfl rfl)))))
theorem Aa.two.Ac (hk : A0 Tryz.prog Aa.two.A9) (h : ∀ (r c : Int) (l : List Int) (p q : Int) (m : List Int), Aa.two.pre [.i r, .i c, .l l, .i p, .i q, .l m] = true → ∃ N dv drops, A1 Aa.two.E N Tryz.f186 (Ad Tryz.f186) [.agg [.int .i64 r, .int .i64 c, .ints .arg .u64 l], .agg [.int .i64 p, .int .i64 q, .ints .arg .u64 m]] = some dv ∧ Wk drops dv (Aa.two.out [.i r, .i c, .l l, .i p, .i q, .l m])) : Am Tryz.prog 186 Aa.two.spec :=
  Aj (A2 hk _ _ _) Tryz.func186 (by kernel_rfl) (by kernel_rfl) h
abbrev _root_.Go.Proofs.S1.Aa.two.Kn : Prop := Am Tryz.prog 186 Aa.two.spec
def Aa.Row.A9 : List (Nat × Entry) := []
def Aa.Row.E : Env := Bb (A8 Aa.Row.A9) (fun _ => false) (fun _ => none) (fun _ => none)
theorem Aa.Row.ev (N : Nat) (r c : Int) (l : List Int) (i f : Int) : A1 Aa.Row.E N Tryz.f190 (Ad Tryz.f190) [.agg [.int .i64 r, .int .i64 c, .ints .arg .u64 l], .int .i64 i, .int .i64 f] =
  bif (((decide ((0 : Int) ≤ (Ab ((Ab (i * c)) + f)))) && (decide ((Ab ((Ab (i * c)) + f)) ≤ (Ab ((Ab (i + (1 : Int))) * c))))) && ((decide ((0 : Int) ≤ (Ab ((Ab (i + (1 : Int))) * c)))) && (decide ((Ab ((Ab (i + (1 : Int))) * c)) ≤ (List.length l : Int))))) then
  bif (decide (0 + (List.length (List.drop (Int.toNat (Ab ((Ab (i * c)) + f))) (List.take (Int.toNat (Ab ((Ab (i + (1 : Int))) * c))) l))) ≤ H0)) then
  some (.ints (.own 22 37) .u64 ([] ++ (List.drop (Int.toNat (Ab ((Ab (i * c)) + f))) (List.take (Int.toNat (Ab ((Ab (i + (1 : Int))) * c))) l))))
  else none
  else none :=
  Eq.trans (by kernel_rfl)
  (C1 (Mu (decide ((0 : Int) ≤ (Ab ((Ab (i * c)) + f)))) (decide ((Ab ((Ab (i * c)) + f)) ≤ (Ab ((Ab (i + (1 : Int))) * c)))) (decide ((0 : Int) ≤ (Ab ((Ab (i + (1 : Int))) * c)))) (decide ((Ab ((Ab (i + (1 : Int))) * c)) ≤ (List.length l : Int)))) rfl rfl)
theorem Aa.Row.Ac (hk : A0 Tryz.prog Aa.Row.A9) (h : ∀ (r c : Int) (l : List Int) (i f : Int), Aa.Row.pre [.i r, .i c, .l l, .i i, .i f] = true → ∃ N dv drops, A1 Aa.Row.E N Tryz.f190 (Ad Tryz.f190) [.agg [.int .i64 r, .int .i64 c, .ints .arg .u64 l], .int .i64 i, .int .i64 f] = some dv ∧ Wk drops dv (Aa.Row.out [.i r, .i c, .l l, .i i, .i f])) : Am Tryz.prog 190 Aa.Row.spec :=
  Aj (A2 hk _ _ _) Tryz.func190 (by kernel_rfl) (by kernel_rfl) h
abbrev _root_.Go.Proofs.S1.Aa.Row.Kn : Prop := Am Tryz.prog 190 Aa.Row.spec
def Aa.C9.hint : Nat → Option Bf
  | 0 => some { keep := [1, 3, 7, 8], objs := [(0, 7, 100007, .ints 37 .u64 [])], boxes := [3] }
  | _ => none
def Aa.C9.A9 : List (Nat × Entry) := [(193, Aa.get.spec)]
def Aa.C9.E : Env := Bb (A8 Aa.C9.A9) (fun _ => false) Aa.C9.hint (fun _ => none)
def Aa.C9.L0 (N M : Nat) (r c : Int) (l : List Int) (k p8 : Int) (p7 : List Int) : Option DV := B6 Aa.C9.E N Tryz.f191 (Ad Tryz.f191) [1, 1, 0, 1, 0] [] M ⟨Hq 24 [(1, .int .i64 k), (3, .ptr 3 0 0), (7, .oref 100007), (8, .int .i64 p8)], [(3, false, .box [.int .i64 r, .int .i64 c, .ints .arg .u64 l]), (100007, false, .ints 37 .u64 p7)]⟩
theorem Aa.C9.Az (N M : Nat) (r c : Int) (l : List Int) (k p8 : Int) (p7 : List Int) : Aa.C9.L0 N (M + 1) r c l k p8 p7 =
  bif (A5 p8 r) then
  bif (Ec r c l p8 k) then
  bif (decide ((List.length p7) + 1 ≤ H0)) then
  Aa.C9.L0 N M r c l k (Ab (p8 + (1 : Int))) (p7 ++ [(Eg c l p8 k)])
  else none
  else none
  else some (.ints (.own 100007 37) .u64 p7) := by kernel_rfl
theorem Aa.C9.ev (N : Nat) (r c : Int) (l : List Int) (k f : Int) : A1 Aa.C9.E N Tryz.f191 (Ad Tryz.f191) [.agg [.int .i64 r, .int .i64 c, .ints .arg .u64 l], .int .i64 k, .int .i64 f] =
  Aa.C9.L0 N N r c l k f [] := by kernel_rfl
theorem Aa.C9.Ac (hk : A0 Tryz.prog Aa.C9.A9) (h : ∀ (r c : Int) (l : List Int) (k f : Int), Aa.C9.pre [.i r, .i c, .l l, .i k, .i f] = true → ∃ N dv drops, A1 Aa.C9.E N Tryz.f191 (Ad Tryz.f191) [.agg [.int .i64 r, .int .i64 c, .ints .arg .u64 l], .int .i64 k, .int .i64 f] = some dv ∧ Wk drops dv (Aa.C9.out [.i r, .i c, .l l, .i k, .i f])) : Am Tryz.prog 191 Aa.C9.spec :=
  Aj (A2 hk _ _ _) Tryz.func191 (by kernel_rfl) (by kernel_rfl) h
abbrev _root_.Go.Proofs.S1.Aa.C9.Kn : Prop := Am Tryz.prog 191 Aa.C9.spec
def Aa.Du.A9 : List (Nat × Entry) := []
def Aa.Du.E : Env := Bb (A8 Aa.Du.A9) (fun _ => false) (fun _ => none) (fun _ => none)
theorem Aa.Du.ev (N : Nat) (i k : Int) : A1 Aa.Du.E N Tryz.f205 (Ad Tryz.f205) [.int .i64 i, .int .i64 k] =
  some (.int .u64 0) := by kernel_rfl
theorem Aa.Du.Ac (hk : A0 Tryz.prog Aa.Du.A9) (h : ∀ (i k : Int), Aa.Du.pre [.i i, .i k] = true → ∃ N dv drops, A1 Aa.Du.E N Tryz.f205 (Ad Tryz.f205) [.int .i64 i, .int .i64 k] = some dv ∧ Wk drops dv (Aa.Du.out [.i i, .i k])) : Am Tryz.prog 205 Aa.Du.spec :=
  Aj (A2 hk _ _ _) Tryz.func205 (by kernel_rfl) (by kernel_rfl) h
abbrev _root_.Go.Proofs.S1.Aa.Du.Kn : Prop := Am Tryz.prog 205 Aa.Du.spec
def Aa.G6.A9 : List (Nat × Entry) := []
def Aa.G6.E : Env := Bb (A8 Aa.G6.A9) (fun _ => false) (fun _ => none) (fun _ => none)
theorem Aa.G6.ev (N : Nat) (i k : Int) : A1 Aa.G6.E N Tryz.f246 (Ad Tryz.f246) [.int .i64 i, .int .i64 k] =
  bif (i == k) then
  some (.int .u64 4607182418800017408)
  else some (.int .u64 0) := by kernel_rfl
theorem Aa.G6.Ac (hk : A0 Tryz.prog Aa.G6.A9) (h : ∀ (i k : Int), Aa.G6.pre [.i i, .i k] = true → ∃ N dv drops, A1 Aa.G6.E N Tryz.f246 (Ad Tryz.f246) [.int .i64 i, .int .i64 k] = some dv ∧ Wk drops dv (Aa.G6.out [.i i, .i k])) : Am Tryz.prog 246 Aa.G6.spec :=
  Aj (A2 hk _ _ _) Tryz.func246 (by kernel_rfl) (by kernel_rfl) h
abbrev _root_.Go.Proofs.S1.Aa.G6.Kn : Prop := Am Tryz.prog 246 Aa.G6.spec
def Aa.E0.A9 : List (Nat × Entry) := [(193, Aa.get.spec)]
def Aa.E0.E : Env := Bb (A8 Aa.E0.A9) (fun _ => false) (fun _ => none) (fun _ => none)
theorem Aa.E0.ev (N : Nat) (i k : Int) (r c : Int) (l : List Int) : A1 Aa.E0.E N Tryz.f220 (Ad Tryz.f220) [.int .i64 i, .int .i64 k, .cellp [.int .i64 r, .int .i64 c, .ints .arg .u64 l]] =
  bif (Ec r c l k i) then
  some (.int .u64 (Eg c l k i))
  else none := by kernel_rfl
theorem Aa.E0.Ac (hk : A0 Tryz.prog Aa.E0.A9) (h : ∀ (i k : Int) (r c : Int) (l : List Int), Aa.E0.pre [.i i, .i k, .i r, .i c, .l l] = true → ∃ N dv drops, A1 Aa.E0.E N Tryz.f220 (Ad Tryz.f220) [.int .i64 i, .int .i64 k, .cellp [.int .i64 r, .int .i64 c, .ints .arg .u64 l]] = some dv ∧ Wk drops dv (Aa.E0.out [.i i, .i k, .i r, .i c, .l l])) : Am Tryz.prog 220 Aa.E0.spec :=
  Aj (A2 hk _ _ _) Tryz.func220 (by kernel_rfl) (by kernel_rfl) h
abbrev _root_.Go.Proofs.S1.Aa.E0.Kn : Prop := Am Tryz.prog 220 Aa.E0.spec
def Aa.E2.A9 : List (Nat × Entry) := [(193, Aa.get.spec)]
def Aa.E2.E : Env := Bb (A8 Aa.E2.A9) (fun _ => false) (fun _ => none) (fun _ => none)
theorem Aa.E2.ev (N : Nat) (i k : Int) (r c : Int) (l : List Int) (x y : Int) : A1 Aa.E2.E N Tryz.f192 (Ad Tryz.f192) [.int .i64 i, .int .i64 k, .cellp [.int .i64 r, .int .i64 c, .ints .arg .u64 l], .cellp [.int .i64 x], .cellp [.int .i64 y]] =
  bif (Ec r c l (Ab (x + i)) (Ab (y + k))) then
  some (.int .u64 (Eg c l (Ab (x + i)) (Ab (y + k))))
  else none := by kernel_rfl
theorem Aa.E2.Ac (hk : A0 Tryz.prog Aa.E2.A9) (h : ∀ (i k : Int) (r c : Int) (l : List Int) (x y : Int), Aa.E2.pre [.i i, .i k, .i r, .i c, .l l, .i x, .i y] = true → ∃ N dv drops, A1 Aa.E2.E N Tryz.f192 (Ad Tryz.f192) [.int .i64 i, .int .i64 k, .cellp [.int .i64 r, .int .i64 c, .ints .arg .u64 l], .cellp [.int .i64 x], .cellp [.int .i64 y]] = some dv ∧ Wk drops dv (Aa.E2.out [.i i, .i k, .i r, .i c, .l l, .i x, .i y])) : Am Tryz.prog 192 Aa.E2.spec :=
  Aj (A2 hk _ _ _) Tryz.func192 (by kernel_rfl) (by kernel_rfl) h
abbrev _root_.Go.Proofs.S1.Aa.E2.Kn : Prop := Am Tryz.prog 192 Aa.E2.spec
def Aa.G2.A9 : List (Nat × Entry) := [(191, Aa.C9.spec), (190, Aa.Row.spec), (189, Ae.Oi.spec)]
def Aa.G2.E : Env := Bb (A8 Aa.G2.A9) (fun _ => false) (fun _ => none) (fun _ => none)
theorem Aa.G2.ev (N : Nat) (i k : Int) (r c : Int) (l : List Int) (p q : Int) (m : List Int) : A1 Aa.G2.E N Tryz.f188 (Ad Tryz.f188) [.int .i64 i, .int .i64 k, .cellp [.int .i64 r, .int .i64 c, .ints .arg .u64 l], .cellp [.int .i64 p, .int .i64 q, .ints .arg .u64 m]] =
  bif (Zc r c l i && decide ((0 : Int) = 0)) then
  bif (Lm p q m k && C2 (0 ≤ (0 : Int) ∧ (0 : Int) ≤ p)) then
  bif ((Tt (Mf c l i) (Dm q m k (0 : Int) (Int.toNat (p - (0 : Int)))) && An (Mf c l i)) && An (Dm q m k (0 : Int) (Int.toNat (p - (0 : Int))))) then
  some (.int .u64 (Qn (Mf c l i) (Dm q m k (0 : Int) (Int.toNat (p - (0 : Int))))))
  else none
  else none
  else none :=
  Eq.trans (by kernel_rfl)
  (C1 (Rv (Zc r c l i && decide ((0 : Int) = 0))) (C1 (Rv (Lm p q m k && C2 (0 ≤ (0 : Int) ∧ (0 : Int) ≤ p))) (C1 (Rv ((Tt (Mf c l i) (Dm q m k (0 : Int) (Int.toNat (p - (0 : Int)))) && An (Mf c l i)) && An (Dm q m k (0 : Int) (Int.toNat (p - (0 : Int)))))) rfl rfl) rfl) rfl)
theorem Aa.G2.Ac (hk : A0 Tryz.prog Aa.G2.A9) (h : ∀ (i k : Int) (r c : Int) (l : List Int) (p q : Int) (m : List Int), Aa.G2.pre [.i i, .i k, .i r, .i c, .l l, .i p, .i q, .l m] = true → ∃ N dv drops, A1 Aa.G2.E N Tryz.f188 (Ad Tryz.f188) [.int .i64 i, .int .i64 k, .cellp [.int .i64 r, .int .i64 c, .ints .arg .u64 l], .cellp [.int .i64 p, .int .i64 q, .ints .arg .u64 m]] = some dv ∧ Wk drops dv (Aa.G2.out [.i i, .i k, .i r, .i c, .l l, .i p, .i q, .l m])) : Am Tryz.prog 188 Aa.G2.spec :=
  Aj (A2 hk _ _ _) Tryz.func188 (by kernel_rfl) (by kernel_rfl) h
abbrev _root_.Go.Proofs.S1.Aa.G2.Kn : Prop := Am Tryz.prog 188 Aa.G2.spec
end EqMat
end Go.Proofs.S1
namespace Go.Proofs.S1
open Go Go.Den Go.Rnd Go.Proofs
open EqMat
theorem K3 {a b : Int} (h1 : 0 ≤ a) (h2 : a < 20) (h3 : 0 ≤ b) (h4 : b < 20) : 0 ≤ a * b ∧ a * b < 400 := by
  have := Int.mul_nonneg h1 h3
  have h5 : a * b ≤ 19 * 19 := Int.mul_le_mul (by omega) (by omega) h3 (by omega)
  omega
theorem Aa.size.known : Aa.size.Kn := Aa.size.Ac .nil fun n _ => by
  refine ⟨0, Aa.size.out [.i n], [], ?_, .bool⟩
  have e : (bif (Ds (0 : Int) n) then (Ds n (6 : Int)) else false) = Bs n := by
    unfold Bs
    rw [Ef, Ef]
    cases decide (0 ≤ n) <;> rfl
  rw [Aa.size.ev, e]; rfl
theorem chk_code (r c : Int) (l : List Int) : (((!(Bs r)) || (!(Bs c))) || ((List.length l : Int) != (Ab (r * c)))) = !(Bn r c l) := by
  unfold Bn
  cases h1 : Bs r with
  | false => rfl
  | true =>
    cases h2 : Bs c with
    | false => rfl
    | true =>
      obtain ⟨r1, r2⟩ := Ht.1 h1
      obtain ⟨c1, c2⟩ := Ht.1 h2
      have := K3 (a := r) (b := c) r1 (by omega) c1 (by omega)
      rw [Ap (by omega) (by omega), Bool.eq_iff_iff]
      simp
theorem Aa.Check.known : Aa.Check.Kn := Aa.Check.Ac (.cons Aa.size.known .nil) fun r c l _ => by
  refine ⟨0, Aa.Check.out [.i r, .i c, .l l], [], ?_, .int⟩
  rw [Aa.Check.ev, chk_code]
  show _ = some (DV.int .i64 (Jm r c l))
  unfold Jm
  cases Bn r c l <;> rfl
theorem Gc {c i k : Int} {l : List Int} {R : Int} (h : Ec R c l i k = true) : Ab (Ab (i * c) + k) = i * c + k ∧ 0 ≤ i * c + k ∧ i * c + k < l.length := by
  obtain ⟨h1, h2, h3, h4, h5, h6, h7, _⟩ := Ar.1 h
  have := K3 h1 (by omega) h5 (by omega)
  rw [Ap (x := i * c) (by omega) (by omega), Ap (by omega) (by omega)]
  omega
theorem Aa.get.known : Aa.get.Kn := Aa.get.Ac .nil fun r c l i k hp => by
  obtain ⟨e, h1, h2⟩ := Gc (R := r) (show Ec r c l i k = true from hp)
  refine ⟨0, Aa.get.out [.i r, .i c, .l l, .i i, .i k], [], ?_, .int⟩
  rw [Aa.get.ev, e, decide_eq_true h1, decide_eq_true h2]
  rfl
theorem Rl (r c : Int) (l : List Int) : ((Jm r c l) != (0 : Int)) = !(Bn r c l) := by
  unfold Jm
  cases Bn r c l <;> rfl
theorem Aa.two.known : Aa.two.Kn := Aa.two.Ac (.cons Aa.Check.known .nil) fun r c l p q m _ => by
  refine ⟨0, Aa.two.out [.i r, .i c, .l l, .i p, .i q, .l m], [], ?_, .int⟩
  rw [Aa.two.ev, Rl, Rl]
  show _ = some (DV.int .i64 (Y2 r c l p q m))
  unfold Y2
  cases Bn r c l <;> cases Bn p q m <;> rfl
theorem Aa.Row.known : Aa.Row.Kn := Aa.Row.Ac .nil fun r c l i f hp => by
  obtain ⟨h0, hf⟩ := Ag.1 hp
  obtain rfl := of_decide_eq_true hf
  obtain ⟨hr, hi⟩ := Ag.1 h0
  have hi := Ar.1 hi
  obtain ⟨R, C, rfl, rfl, r6, c6, hl⟩ := Da hr
  obtain ⟨I, rfl⟩ : ∃ k : Nat, i = k := ⟨i.toNat, by omega⟩
  have hm := K3 (a := (I : Int)) (b := (C : Int)) (by omega) (by omega) (by omega) (by omega)
  have hm2 := K3 (a := (I : Int) + 1) (b := (C : Int)) (by omega) (by omega) (by omega) (by omega)
  have hle : (I + 1) * C ≤ R * C := Nat.mul_le_mul_right C (by omega)
  have hle2 : I * C ≤ (I + 1) * C := Nat.mul_le_mul_right C (by omega)
  have e1 : (I : Int) * (C : Int) = ((I * C : Nat) : Int) := (Int.natCast_mul _ _).symm
  have e2 : ((I : Int) + 1) * (C : Int) = (((I + 1) * C : Nat) : Int) := by rw [Int.natCast_mul]; rfl
  refine ⟨0, .ints (.own 22 tB) .u64 (Mf (C : Int) l (I : Int)), [22], ?_, .drop _ _ _ _ (List.mem_singleton.2 rfl)⟩
  rw [Aa.Row.ev, Ap (x := (I : Int) + 1) (by omega) (by omega), Ap (x := (I : Int) * (C : Int)) (by omega) (by omega), Int.add_zero, Ap (x := (I : Int) * (C : Int)) (by omega) (by omega), Ap (x := ((I : Int) + 1) * (C : Int)) (by omega) (by omega)]
  unfold Mf
  have d1 : decide ((0 : Int) ≤ (I : Int) * (C : Int)) = true := decide_eq_true (by omega)
  have d2 : decide ((I : Int) * (C : Int) ≤ ((I : Int) + 1) * (C : Int)) = true := decide_eq_true (by rw [e1, e2]; omega)
  have d3 : decide ((0 : Int) ≤ ((I : Int) + 1) * (C : Int)) = true := decide_eq_true (by omega)
  have d4 : decide (((I : Int) + 1) * (C : Int) ≤ (l.length : Int)) = true := decide_eq_true (by rw [e2]; omega)
  have d5 : decide (0 + (List.drop ((I : Int) * (C : Int)).toNat (List.take (((I : Int) + 1) * (C : Int)).toNat l)).length ≤ H0) = true := by
    refine decide_eq_true ?_
    rw [List.length_drop, List.length_take]
    unfold H0
    omega
  rw [d1, d2, d3, d4, d5]
  rfl
theorem Jc (c b i : Int) (n : Nat) (l : List Int) : (Dm c l b i n).length = n := by unfold Dm; rw [List.length_map, List.length_range]
theorem col_seg (r c : Int) (l : List Int) (k : Int) : Dm c l k 0 (Int.toNat (r - 0)) = Rk r c l k := by
  unfold Dm Rk
  rw [Int.sub_zero]
  refine List.map_congr_left fun j _ => ?_
  rw [Int.zero_add]
theorem zero_le_of {r : Int} (h : 0 ≤ r) : C2 (0 ≤ (0 : Int) ∧ 0 ≤ r) = true := Ar.2 ⟨Int.le_refl _, h⟩
theorem col_loop (N : Nat) {R C K f : Nat} {l : List Int} (r6 : R ≤ 6) (c6 : C ≤ 6) (hl : l.length = R * C) (hk : K < C) : ∀ (k i F : Nat), f + i + k = R → k < F →
    Aa.C9.L0 N F (R : Int) (C : Int) l (K : Int) ((f + i : Nat) : Int) (Dm (C : Int) l (K : Int) (f : Int) i) = some (.ints (.own 100007 tB) .u64 (Dm (C : Int) l (K : Int) (f : Int) (R - f))) := by
  intro k
  induction k with
  | zero =>
    intro i F hi hF
    obtain ⟨F, rfl⟩ : ∃ G, F = G + 1 := ⟨F - 1, by omega⟩
    rw [Aa.C9.Az, Aw, decide_eq_false (by omega), cond_false, show R - f = i by omega]
  | succ k ih =>
    intro i F hi hF
    obtain ⟨F, rfl⟩ : ∃ G, F = G + 1 := ⟨F - 1, by omega⟩
    have d : decide ((Dm (C : Int) l (K : Int) (f : Int) i).length + 1 ≤ H0) = true := decide_eq_true (by rw [Jc]; unfold H0; omega)
    rw [Aa.C9.Az, Aw, decide_eq_true (by omega), cond_true, Dl r6 c6 hl (show f + i < R by omega) hk, cond_true, d, cond_true, Ap (by omega) (by omega)]
    have := ih (i + 1) F (by omega) (by omega)
    unfold Dm at this ⊢
    rw [List.range_succ, List.map_append] at this
    exact this
theorem Aa.C9.known : Aa.C9.Kn := Aa.C9.Ac (.cons Aa.get.known .nil) fun r c l k f hp => by
  obtain ⟨h0, hf⟩ := Ag.1 (show (Lm r c l k && C2 (0 ≤ f ∧ f ≤ r)) = true from hp)
  have hf := Ar.1 hf
  obtain ⟨hr, hi⟩ := Ag.1 h0
  have hi := Ar.1 hi
  obtain ⟨R, C, rfl, rfl, r6, c6, hl⟩ := Da hr
  obtain ⟨K, rfl⟩ : ∃ j : Nat, k = j := ⟨k.toNat, by omega⟩
  obtain ⟨f, rfl⟩ : ∃ j : Nat, f = j := ⟨f.toNat, by omega⟩
  refine ⟨8, .ints (.own 100007 tB) .u64 (Dm (C : Int) l (K : Int) (f : Int) (R - f)), [100007], ?_, ?_⟩
  · rw [Aa.C9.ev]
    exact col_loop 8 r6 c6 hl (by omega) (R - f) 0 8 (by omega) (by omega)
  · show Wk _ _ (DV.ints .fresh .u64 (Dm (C : Int) l (K : Int) (f : Int) (Int.toNat ((R : Int) - (f : Int)))))
    rw [show Int.toNat ((R : Int) - (f : Int)) = R - f by omega]
    exact .drop _ _ _ _ (List.mem_singleton.2 rfl)
theorem Ui {r c i k : Int} {l : List Int} (h : Bn r c l = true) (h1 : 0 ≤ i) (h2 : i < r) (h3 : 0 ≤ k) (h4 : k < c) (R : Int) : Ec R c l i k = true := by
  obtain ⟨R', C, rfl, rfl, r6, c6, hl⟩ := Da h
  obtain ⟨I, rfl⟩ : ∃ j : Nat, i = j := ⟨i.toNat, by omega⟩
  obtain ⟨K, rfl⟩ : ∃ j : Nat, k = j := ⟨k.toNat, by omega⟩
  exact Dl r6 c6 hl (by omega) (by omega)
theorem Aa.Du.known : Aa.Du.Kn := Aa.Du.Ac .nil fun i k _ => by
  refine ⟨0, Aa.Du.out [.i i, .i k], [], ?_, .int⟩
  rw [Aa.Du.ev]; rfl
theorem Aa.G6.known : Aa.G6.Kn := Aa.G6.Ac .nil fun i k _ => by
  refine ⟨0, Aa.G6.out [.i i, .i k], [], ?_, .int⟩
  rw [Aa.G6.ev]
  show _ = some (DV.int .u64 (Tv i k))
  unfold Tv
  by_cases h : i = k
  · have : (i == k) = true := by rw [h]; simp
    rw [this, if_pos h]; rfl
  · have : (i == k) = false := by simpa using h
    rw [this, if_neg h]; rfl
theorem Aa.E0.known : Aa.E0.Kn := Aa.E0.Ac (.cons Aa.get.known .nil) fun i k r c l hp => by
  have hp : Ec r c l k i = true := hp
  refine ⟨0, Aa.E0.out [.i i, .i k, .i r, .i c, .l l], [], ?_, .int⟩
  rw [Aa.E0.ev, hp]; rfl
theorem Aa.E2.known : Aa.E2.Kn := Aa.E2.Ac (.cons Aa.get.known .nil) fun i k r c l x y hp => by
  obtain ⟨h1, h2⟩ := Ag.1 hp
  have h2 := Ar.1 h2
  refine ⟨0, Aa.E2.out [.i i, .i k, .i r, .i c, .l l, .i x, .i y], [], ?_, .int⟩
  rw [Aa.E2.ev, Ap (x := x + i) (by omega) (by omega), Ap (x := y + k) (by omega) (by omega), h1]; rfl
theorem Vo {R C : Nat} {l : List Int} (hl : l.length = R * C) {I : Nat} (hi : I < R) : (Mf (C : Int) l (I : Int)).length = C := by
  have hle : (I + 1) * C ≤ R * C := Nat.mul_le_mul_right C (by omega)
  have e1 : ((I : Int) * (C : Int)).toNat = I * C := by rw [← Int.natCast_mul, Int.toNat_natCast]
  have e2 : (((I : Int) + 1) * (C : Int)).toNat = (I + 1) * C := by
    have : ((I : Int) + 1) * (C : Int) = (((I + 1) * C : Nat) : Int) := by rw [Int.natCast_mul]; rfl
    rw [this, Int.toNat_natCast]
  unfold Mf
  rw [List.length_drop, List.length_take, e1, e2]
  rw [Nat.add_mul, Nat.one_mul] at hle ⊢
  omega
theorem col_length (R : Nat) (C : Int) (l : List Int) (K : Int) : (Rk (R : Int) C l K).length = R := by
  unfold Rk
  rw [List.length_map, List.length_range, Int.toNat_natCast]
theorem row_all {c i : Int} {l : List Int} (h : An l = true) : An (Mf c l i) = true := by
  have h := Ar.1 h
  exact Ar.2 fun x hx => h x (List.mem_of_mem_take (List.mem_of_mem_drop hx))
theorem Hf {c i k : Int} {l : List Int} (h : An l = true) : Ah (Eg c l i k) = true := by
  unfold Eg
  by_cases hj : (i * c + k).toNat < l.length
  · exact Aai h hj
  · rw [List.getD_eq_getElem?_getD, List.getElem?_eq_none (by omega)]
    exact By (n := 0) (by decide)
theorem col_all {r c k : Int} {l : List Int} (h : An l = true) : An (Rk r c l k) = true := by
  refine Ar.2 fun x hx => ?_
  obtain ⟨j, _, rfl⟩ := List.mem_map.1 hx
  exact Hf h
theorem Aa.G2.known : Aa.G2.Kn := Aa.G2.Ac (.cons Aa.C9.known (.cons Aa.Row.known (.cons Ae.Oi.known .nil))) fun i k r c l p q m hp => by
  obtain ⟨h1, h2⟩ := Ag.1 (show Rb r c l p q m i k = true from hp)
  obtain ⟨h3, h4⟩ := Ag.1 h1
  obtain ⟨h5, h6⟩ := Ag.1 h2
  obtain ⟨hl, hm⟩ := Ag.1 h5
  obtain rfl := Ar.1 h6
  obtain ⟨hr, hi⟩ := Ag.1 h3
  have hi := Ar.1 hi
  obtain ⟨R, C, rfl, rfl, r6, c6, ll⟩ := Da hr
  obtain ⟨I, rfl⟩ : ∃ j : Nat, i = j := ⟨i.toNat, by omega⟩
  refine ⟨0, Aa.G2.out [.i I, .i k, .i R, .i C, .l l, .i C, .i q, .l m], [], ?_, .int⟩
  have hf : Tt (Mf (C : Int) l (I : Int)) (Rk (C : Int) q m k) = true := Z1.2 ⟨by rw [Vo ll (by omega), col_length], by rw [Vo ll (by omega)]; omega⟩
  rw [Aa.G2.ev, col_seg, h3, h4, hf, row_all hl, col_all hm, zero_le_of (by omega)]
  rfl
end Go.Proofs.S1
namespace Go.Proofs.S1
open Go Go.Den Go.Rnd Go.Proofs
set_option linter.unusedVariables false
set_option maxRecDepth 100000
namespace EqCmp
theorem Eu : ∀ a : Bool, ((!(!a)) || (a == false)) = true := by decide
theorem I7 : ∀ a : Bool, ((!(a == false)) || ((((!(a == false)) || (a == false)) && true) && true)) = true := by decide
theorem H8 : ∀ a : Bool, ((!(a == false)) || true) = true := by decide
theorem Hr : ∀ a b : Bool, (bif a then b else false) = (a && b) := by decide
theorem Ge : ∀ a : Bool, (((!a) || (a == true)) && true) = true := by decide
theorem Kb : ∀ a : Bool, ((!(a == true)) || ((((!(a == true)) || (a == true)) && true) && true)) = true := by decide
theorem Lu : ∀ a : Bool, ((!(a == true)) || true) = true := by decide
def compare.Kq.A9 : List (Nat × Entry) := [(213, soft.Sign.spec)]
def compare.Kq.E : Env := Bb (A8 compare.Kq.A9) (fun _ => false) (fun _ => none) (fun _ => none)
theorem compare.Kq.ev (N : Nat) (b : Int) : A1 compare.Kq.E N Tryz.f214 (Ad Tryz.f214) [.int .u64 b] =
  bif (Ah b) then
  bif (C6 b) then
  some (.int .i64 (Ab (0 - (Ab (Fj .u64 b (9223372036854775808 : Int))))))
  else some (.int .i64 (Ab b))
  else none := by kernel_rfl
theorem compare.Kq.Ac (hk : A0 Tryz.prog compare.Kq.A9) (h : ∀ (b : Int), compare.Kq.pre [.i b] = true → ∃ N dv drops, A1 compare.Kq.E N Tryz.f214 (Ad Tryz.f214) [.int .u64 b] = some dv ∧ Wk drops dv (compare.Kq.out [.i b])) : Am Tryz.prog 214 compare.Kq.spec :=
  Aj (A2 hk _ _ _) Tryz.func214 (by kernel_rfl) (by kernel_rfl) h
abbrev _root_.Go.Proofs.S1.compare.Kq.Kn : Prop := Am Tryz.prog 214 compare.Kq.spec
def compare.Order.A9 : List (Nat × Entry) := [(214, compare.Kq.spec), (155, soft.Kind.spec)]
def compare.Order.E : Env := Bb (A8 compare.Order.A9) (fun _ => false) (fun _ => none) (fun _ => none)
theorem compare.Order.ev (N : Nat) (a b : Int) : A1 compare.Order.E N Tryz.f162 (Ad Tryz.f162) [.int .u64 a, .int .u64 b] =
  bif (Ah a) then
  bif ((A7 a) == (4 : Int)) then
  some (.tup [.int .i64 0, .bool false])
  else bif (Ah b) then
  bif ((A7 b) == (4 : Int)) then
  some (.tup [.int .i64 0, .bool false])
  else bif (Ah a) then
  bif (Ah b) then
  bif (A5 (Xv a) (Xv b)) then
  some (.tup [.int .i64 (-1 : Int), .bool true])
  else bif (Ah a) then
  bif (Ah b) then
  bif (A5 (Xv b) (Xv a)) then
  some (.tup [.int .i64 1, .bool true])
  else some (.tup [.int .i64 0, .bool true])
  else none
  else none
  else none
  else none
  else none
  else none := by kernel_rfl
theorem compare.Order.Ac (hk : A0 Tryz.prog compare.Order.A9) (h : ∀ (a b : Int), compare.Order.pre [.i a, .i b] = true → ∃ N dv drops, A1 compare.Order.E N Tryz.f162 (Ad Tryz.f162) [.int .u64 a, .int .u64 b] = some dv ∧ Wk drops dv (compare.Order.out [.i a, .i b])) : Am Tryz.prog 162 compare.Order.spec :=
  Aj (A2 hk _ _ _) Tryz.func162 (by kernel_rfl) (by kernel_rfl) h
abbrev _root_.Go.Proofs.S1.compare.Order.Kn : Prop := Am Tryz.prog 162 compare.Order.spec
def compare.K1.A9 : List (Nat × Entry) := [(162, compare.Order.spec)]
def compare.K1.E : Env := Bb (A8 compare.K1.A9) (fun _ => false) (fun _ => none) (fun _ => none)
theorem compare.K1.ev (N : Nat) (a b : Int) : A1 compare.K1.E N Tryz.f90 (Ad Tryz.f90) [.int .u64 a, .int .u64 b] =
  bif (Ah a && Ah b) then
  some (.bool (A5 (Q9 a b) (0 : Int)))
  else none := by kernel_rfl
theorem compare.K1.Ac (hk : A0 Tryz.prog compare.K1.A9) (h : ∀ (a b : Int), compare.K1.pre [.i a, .i b] = true → ∃ N dv drops, A1 compare.K1.E N Tryz.f90 (Ad Tryz.f90) [.int .u64 a, .int .u64 b] = some dv ∧ Wk drops dv (compare.K1.out [.i a, .i b])) : Am Tryz.prog 90 compare.K1.spec :=
  Aj (A2 hk _ _ _) Tryz.func90 (by kernel_rfl) (by kernel_rfl) h
abbrev _root_.Go.Proofs.S1.compare.K1.Kn : Prop := Am Tryz.prog 90 compare.K1.spec
def compare.Gm.A9 : List (Nat × Entry) := []
def compare.Gm.E : Env := Bb (A8 compare.Gm.A9) (fun _ => false) (fun _ => none) (fun _ => none)
theorem compare.Gm.ev (N : Nat) (a : Int) : A1 compare.Gm.E N Tryz.f87 (Ad Tryz.f87) [.int .u64 a] =
  some (.int .u64 (Fj .u64 a (9223372036854775808 : Int))) := by kernel_rfl
theorem compare.Gm.Ac (hk : A0 Tryz.prog compare.Gm.A9) (h : ∀ (a : Int), compare.Gm.pre [.i a] = true → ∃ N dv drops, A1 compare.Gm.E N Tryz.f87 (Ad Tryz.f87) [.int .u64 a] = some dv ∧ Wk drops dv (compare.Gm.out [.i a])) : Am Tryz.prog 87 compare.Gm.spec :=
  Aj (A2 hk _ _ _) Tryz.func87 (by kernel_rfl) (by kernel_rfl) h
abbrev _root_.Go.Proofs.S1.compare.Gm.Kn : Prop := Am Tryz.prog 87 compare.Gm.spec
def compare.Ee.hint : Nat → Option Bf
  | 1 => some { keep := [0, 6, 7, 8], objs := [], boxes := [] }
  | _ => none
def compare.Ee.A9 : List (Nat × Entry) := [(155, soft.Kind.spec), (212, soft.Cs.spec), (211, soft.Fa.spec), (213, soft.Sign.spec)]
def compare.Ee.E : Env := Bb (A8 compare.Ee.A9) (fun _ => false) compare.Ee.hint (fun _ => none)
def compare.Ee.L0 (N M : Nat) (a p6 p7 : Int) (p8 : Bool) : Option DV := B6 compare.Ee.E N Tryz.f161 (Ad Tryz.f161) [1, 1, 1, 1, 1, 1, 0, 0] [] M ⟨Hq 59 [(0, .int .u64 a), (6, .int .u64 p6), (7, .int .i64 p7), (8, .bool p8)], []⟩
theorem compare.Ee.Az (N M : Nat) (a p6 p7 : Int) (p8 : Bool) : compare.Ee.L0 N (M + 1) a p6 p7 p8 =
  bif ((A5 p7 (-1130 : Int)) && (A5 (1 : Int) p6)) then
  compare.Ee.L0 N M a (Ct .u64 p6 (1 : Int)) (Ab (p7 + (1 : Int))) (bif p8 then true else ((D3 .u64 p6 (1 : Int)) == (1 : Int)))
  else bif (A5 p7 (-1130 : Int)) then
  bif (Ah a) then
  bif (Dn (0 : Int) (-1074 : Int) true) then
  some (.tup [.int .u64 (Ea (C6 a) (0 : Int) (-1074 : Int) true), .int .u8 (D9 (C6 a) (0 : Int) (-1074 : Int) true)])
  else none
  else none
  else bif (Ah a) then
  bif (Dn p6 p7 p8) then
  some (.tup [.int .u64 (Ea (C6 a) p6 p7 p8), .int .u8 (D9 (C6 a) p6 p7 p8)])
  else none
  else none :=
  Eq.trans (by kernel_rfl)
  (Ax (Lu (A5 p7 (-1130 : Int))) (Ax (Kb (A5 p7 (-1130 : Int))) (Ax (Ge (A5 p7 (-1130 : Int))) (C1 (Hr (A5 p7 (-1130 : Int)) (A5 (1 : Int) p6)) (Ax (H8 p8) (Ax (I7 p8) (Ax (I7 p8) (Ax (Eu p8) rfl)))) rfl))))
theorem compare.Ee.ev (N : Nat) (a n : Int) : A1 compare.Ee.E N Tryz.f161 (Ad Tryz.f161) [.int .u64 a, .int .i64 n] =
  bif (Ah a) then
  bif ((A7 a) == (4 : Int)) then
  some (.tup [.int .u64 9221120237041090560, .int .u8 0])
  else bif ((A7 a) == (3 : Int)) then
  bif ((A7 a) == (3 : Int)) then
  some (.tup [.int .u64 a, .int .u8 0])
  else bif (Ah a) then
  compare.Ee.L0 N N a (Bk a) (Ab ((Ba a) + (max (-2300 : Int) (min (2300 : Int) n)))) false
  else none
  else bif ((A7 a) == (0 : Int)) then
  some (.tup [.int .u64 a, .int .u8 0])
  else bif (Ah a) then
  compare.Ee.L0 N N a (Bk a) (Ab ((Ba a) + (max (-2300 : Int) (min (2300 : Int) n)))) false
  else none
  else none := by kernel_rfl
theorem compare.Ee.Ac (hk : A0 Tryz.prog compare.Ee.A9) (h : ∀ (a n : Int), compare.Ee.pre [.i a, .i n] = true → ∃ N dv drops, A1 compare.Ee.E N Tryz.f161 (Ad Tryz.f161) [.int .u64 a, .int .i64 n] = some dv ∧ Wk drops dv (compare.Ee.out [.i a, .i n])) : Am Tryz.prog 161 compare.Ee.spec :=
  Aj (A2 hk _ _ _) Tryz.func161 (by kernel_rfl) (by kernel_rfl) h
abbrev _root_.Go.Proofs.S1.compare.Ee.Kn : Prop := Am Tryz.prog 161 compare.Ee.spec
def Ae.Bj.A9 : List (Nat × Entry) := [(161, compare.Ee.spec)]
def Ae.Bj.E : Env := Bb (A8 Ae.Bj.A9) (fun _ => false) (fun _ => none) (fun _ => none)
theorem Ae.Bj.ev (N : Nat) (a n : Int) : A1 Ae.Bj.E N Tryz.f88 (Ad Tryz.f88) [.int .u64 a, .int .i64 n] =
  bif (Dp a n) then
  some (.int .u64 (B3 a n))
  else none := by kernel_rfl
theorem Ae.Bj.Ac (hk : A0 Tryz.prog Ae.Bj.A9) (h : ∀ (a n : Int), Ae.Bj.pre [.i a, .i n] = true → ∃ N dv drops, A1 Ae.Bj.E N Tryz.f88 (Ad Tryz.f88) [.int .u64 a, .int .i64 n] = some dv ∧ Wk drops dv (Ae.Bj.out [.i a, .i n])) : Am Tryz.prog 88 Ae.Bj.spec :=
  Aj (A2 hk _ _ _) Tryz.func88 (by kernel_rfl) (by kernel_rfl) h
abbrev _root_.Go.Proofs.S1.Ae.Bj.Kn : Prop := Am Tryz.prog 88 Ae.Bj.spec
def Ae.Div.A9 : List (Nat × Entry) := [(209, times.Div.spec)]
def Ae.Div.E : Env := Bb (A8 Ae.Div.A9) (fun _ => false) (fun _ => none) (fun _ => none)
theorem Ae.Div.ev (N : Nat) (a b : Int) : A1 Ae.Div.E N Tryz.f158 (Ad Tryz.f158) [.int .u64 a, .int .u64 b] =
  bif (Ah a && Ah b) then
  some (.int .u64 (Et a b))
  else none := by kernel_rfl
theorem Ae.Div.Ac (hk : A0 Tryz.prog Ae.Div.A9) (h : ∀ (a b : Int), Ae.Div.pre [.i a, .i b] = true → ∃ N dv drops, A1 Ae.Div.E N Tryz.f158 (Ad Tryz.f158) [.int .u64 a, .int .u64 b] = some dv ∧ Wk drops dv (Ae.Div.out [.i a, .i b])) : Am Tryz.prog 158 Ae.Div.spec :=
  Aj (A2 hk _ _ _) Tryz.func158 (by kernel_rfl) (by kernel_rfl) h
abbrev _root_.Go.Proofs.S1.Ae.Div.Kn : Prop := Am Tryz.prog 158 Ae.Div.spec
def Ae.Cm.hint : Nat → Option Bf
  | 0 => some { keep := [3, 6, 7, 8], objs := [], boxes := [] }
  | _ => none
def Ae.Cm.A9 : List (Nat × Entry) := [(87, compare.Gm.spec), (155, soft.Kind.spec)]
def Ae.Cm.E : Env := Bb (A8 Ae.Cm.A9) (fun _ => false) Ae.Cm.hint (fun _ => none)
def Ae.Cm.L0 (N M : Nat) (x : List Int) (p3 p8 : Int) : Option DV := B6 Ae.Cm.E N Tryz.f89 (Ad Tryz.f89) [1, 1, 0, 1, 0] [] M ⟨Hq 21 [(3, .int .u64 p3), (6, .ints .arg .u64 x), (7, .int .i64 (List.length x : Int)), (8, .int .i64 p8)], []⟩
theorem Ae.Cm.Az (N M : Nat) (x : List Int) (p3 p8 : Int) : Ae.Cm.L0 N (M + 1) x p3 p8 =
  bif (A5 p8 (List.length x : Int)) then
  bif ((decide (0 ≤ p8)) && (decide (p8 < (List.length x : Int)))) then
  bif (Ah (List.getD x (Int.toNat p8) 0)) then
  bif ((A7 (List.getD x (Int.toNat p8) 0)) == (4 : Int)) then
  some (.int .u64 9221120237041090560)
  else bif (Ah (List.getD x (Int.toNat p8) 0)) then
  Ae.Cm.L0 N M x (max p3 (Ix (List.getD x (Int.toNat p8) 0))) (Ab (p8 + (1 : Int)))
  else none
  else none
  else none
  else some (.int .u64 p3) := by kernel_rfl
theorem Ae.Cm.ev (N : Nat) (x : List Int) : A1 Ae.Cm.E N Tryz.f89 (Ad Tryz.f89) [.ints .arg .u64 x] =
  Ae.Cm.L0 N N x (0 : Int) (0 : Int) := by kernel_rfl
theorem Ae.Cm.Ac (hk : A0 Tryz.prog Ae.Cm.A9) (h : ∀ (x : List Int), Ae.Cm.pre [.l x] = true → ∃ N dv drops, A1 Ae.Cm.E N Tryz.f89 (Ad Tryz.f89) [.ints .arg .u64 x] = some dv ∧ Wk drops dv (Ae.Cm.out [.l x])) : Am Tryz.prog 89 Ae.Cm.spec :=
  Aj (A2 hk _ _ _) Tryz.func89 (by kernel_rfl) (by kernel_rfl) h
abbrev _root_.Go.Proofs.S1.Ae.Cm.Kn : Prop := Am Tryz.prog 89 Ae.Cm.spec
def Ae.Finite.hint : Nat → Option Bf
  | 0 => some { keep := [5, 6, 7], objs := [], boxes := [] }
  | _ => none
def Ae.Finite.A9 : List (Nat × Entry) := [(148, soft.Finite.spec)]
def Ae.Finite.E : Env := Bb (A8 Ae.Finite.A9) (fun _ => false) Ae.Finite.hint (fun _ => none)
def Ae.Finite.L0 (N M : Nat) (x : List Int) (p7 : Int) : Option DV := B6 Ae.Finite.E N Tryz.f150 (Ad Tryz.f150) [1, 0, 1, 0] [] M ⟨Hq 15 [(5, .ints .arg .u64 x), (6, .int .i64 (List.length x : Int)), (7, .int .i64 p7)], []⟩
theorem Ae.Finite.Az (N M : Nat) (x : List Int) (p7 : Int) : Ae.Finite.L0 N (M + 1) x p7 =
  bif (A5 p7 (List.length x : Int)) then
  bif ((decide (0 ≤ p7)) && (decide (p7 < (List.length x : Int)))) then
  bif (Ah (List.getD x (Int.toNat p7) 0)) then
  bif (!(C8 (List.getD x (Int.toNat p7) 0))) then
  some (.bool false)
  else Ae.Finite.L0 N M x (Ab (p7 + (1 : Int)))
  else none
  else none
  else some (.bool true) := by kernel_rfl
theorem Ae.Finite.ev (N : Nat) (x : List Int) : A1 Ae.Finite.E N Tryz.f150 (Ad Tryz.f150) [.ints .arg .u64 x] =
  Ae.Finite.L0 N N x (0 : Int) := by kernel_rfl
theorem Ae.Finite.Ac (hk : A0 Tryz.prog Ae.Finite.A9) (h : ∀ (x : List Int), Ae.Finite.pre [.l x] = true → ∃ N dv drops, A1 Ae.Finite.E N Tryz.f150 (Ad Tryz.f150) [.ints .arg .u64 x] = some dv ∧ Wk drops dv (Ae.Finite.out [.l x])) : Am Tryz.prog 150 Ae.Finite.spec :=
  Aj (A2 hk _ _ _) Tryz.func150 (by kernel_rfl) (by kernel_rfl) h
abbrev _root_.Go.Proofs.S1.Ae.Finite.Kn : Prop := Am Tryz.prog 150 Ae.Finite.spec
def Cg.Check.hint : Nat → Option Bf
  | 0 => some { keep := [9, 10, 11], objs := [], boxes := [] }
  | _ => none
def Cg.Check.A9 : List (Nat × Entry) := [(160, Aa.Check.spec), (148, soft.Finite.spec)]
def Cg.Check.E : Env := Bb (A8 Cg.Check.A9) (fun _ => false) Cg.Check.hint (fun _ => none)
def Cg.Check.L0 (N M : Nat) (l : List Int) (p11 : Int) : Option DV := B6 Cg.Check.E N Tryz.f86 (Ad Tryz.f86) [1, 1, 0, 1, 0] [] M ⟨Hq 19 [(9, .ints .arg .u64 l), (10, .int .i64 (List.length l : Int)), (11, .int .i64 p11)], []⟩
theorem Cg.Check.Az (N M : Nat) (l : List Int) (p11 : Int) : Cg.Check.L0 N (M + 1) l p11 =
  bif (A5 p11 (List.length l : Int)) then
  bif ((decide (0 ≤ p11)) && (decide (p11 < (List.length l : Int)))) then
  bif (Ah (List.getD l (Int.toNat p11) 0)) then
  bif (!(C8 (List.getD l (Int.toNat p11) 0))) then
  some (.int .i64 4)
  else Cg.Check.L0 N M l (Ab (p11 + (1 : Int)))
  else none
  else none
  else some (.int .i64 0) := by kernel_rfl
theorem Cg.Check.ev (N : Nat) (r c : Int) (l : List Int) : A1 Cg.Check.E N Tryz.f86 (Ad Tryz.f86) [.agg [.int .i64 r, .int .i64 c, .ints .arg .u64 l]] =
  bif ((Jm r c l) != (0 : Int)) then
  some (.int .i64 1)
  else Cg.Check.L0 N N l (0 : Int) := by kernel_rfl
theorem Cg.Check.Ac (hk : A0 Tryz.prog Cg.Check.A9) (h : ∀ (r c : Int) (l : List Int), Cg.Check.pre [.i r, .i c, .l l] = true → ∃ N dv drops, A1 Cg.Check.E N Tryz.f86 (Ad Tryz.f86) [.agg [.int .i64 r, .int .i64 c, .ints .arg .u64 l]] = some dv ∧ Wk drops dv (Cg.Check.out [.i r, .i c, .l l])) : Am Tryz.prog 86 Cg.Check.spec :=
  Aj (A2 hk _ _ _) Tryz.func86 (by kernel_rfl) (by kernel_rfl) h
abbrev _root_.Go.Proofs.S1.Cg.Check.Kn : Prop := Am Tryz.prog 86 Cg.Check.spec
end EqCmp
end Go.Proofs.S1
namespace Go.Proofs.S1
open Go Go.Den Go.Rnd Go.Proofs
open EqCmp
theorem P8 {k j : Nat} (h : k ≠ j) : (((k : Nat) : Int) == ((j : Nat) : Int)) = false := by rw [beq_eq_false_iff_ne]; omega
theorem Yv (n : Nat) : n % 2 ^ 63 < 2 ^ 63 := Nat.mod_lt _ (by decide)
theorem W3 {n : Nat} (h : n < 2 ^ 64) : Fj .u64 (n : Int) (9223372036854775808 : Int) = ((n % 2 ^ 63 : Nat) : Int) := by
  have := N7 (Bi n) (Yv n)
  rw [K4 h] at this
  exact this
theorem compare.Gm.known : compare.Gm.Kn := compare.Gm.Ac .nil fun a hp => by
  obtain ⟨n, rfl, hn⟩ := Bg (show Ah a = true from hp)
  refine ⟨0, compare.Gm.out [.i (n : Int)], [], ?_, .int⟩
  show _ = some (DV.int .u64 (((n : Int).toNat % 2 ^ 63 : Nat) : Int))
  rw [compare.Gm.ev, W3 hn, Int.toNat_natCast]
theorem compare.Kq.known : compare.Kq.Kn := compare.Kq.Ac (.cons soft.Sign.known .nil) fun b hp => by
  have hp : Ah b = true := hp
  obtain ⟨n, rfl, hn⟩ := Bg hp
  refine ⟨0, compare.Kq.out [.i (n : Int)], [], ?_, .int⟩
  show _ = some (DV.int .i64 (Gq (n : Int).toNat))
  have h63 := Yv n
  rw [compare.Kq.ev, hp, cond_true, W3 hn, Int.toNat_natCast]
  unfold Gq Gu C6
  rw [Int.toNat_natCast]
  cases hs : Bi n with
  | true =>
    rw [cond_true, if_pos rfl, Ap (x := ((n % 2 ^ 63 : Nat) : Int)) (by omega) (by omega), Ap (by omega) (by omega)]
    congr 2; omega
  | false =>
    have : n < 2 ^ 63 := by
      unfold Bi at hs
      have := of_decide_eq_false hs
      omega
    rw [cond_false, if_neg (by decide), Nat.mod_eq_of_lt this, Ap (by omega) (by omega)]
theorem compare.Order.known : compare.Order.Kn := compare.Order.Ac (.cons compare.Kq.known (.cons soft.Kind.known .nil)) fun a b hp => by
  obtain ⟨ha, hb⟩ := Ag.1 (show (Ah a && Ah b) = true from hp)
  refine ⟨0, compare.Order.out [.i a, .i b], [], ?_, Wk.Gg (.cons .int (.cons .bool .nil))⟩
  show _ = some (DV.tup [.int .i64 (ordN a.toNat b.toNat), .bool (W9 a.toNat b.toNat)])
  rw [compare.Order.ev, ha, hb, cond_true, cond_true, cond_true, cond_true, cond_true, cond_true, Aw, Aw]
  unfold ordN W9 Xv A7
  by_cases h1 : Ai a.toNat = 4
  · have e : (((Ai a.toNat : Nat) : Int) == (4 : Int)) = true := by rw [h1]; rfl
    rw [e, cond_true, if_pos (.inl h1), decide_eq_true (.inl h1)]; rfl
  · have e : (((Ai a.toNat : Nat) : Int) == (4 : Int)) = false := P8 h1
    rw [e, cond_false]
    by_cases h2 : Ai b.toNat = 4
    · have e : (((Ai b.toNat : Nat) : Int) == (4 : Int)) = true := by rw [h2]; rfl
      rw [e, cond_true, if_pos (.inr h2), decide_eq_true (.inr h2)]; rfl
    · have e : (((Ai b.toNat : Nat) : Int) == (4 : Int)) = false := P8 h2
      have hn : ¬ (Ai a.toNat = 4 ∨ Ai b.toNat = 4) := fun h => h.elim h1 h2
      rw [e, cond_false, if_neg hn, decide_eq_false hn]
      by_cases h3 : Gq a.toNat < Gq b.toNat
      · rw [decide_eq_true h3, if_pos h3]; rfl
      · rw [decide_eq_false h3, if_neg h3]
        by_cases h4 : Gq b.toNat < Gq a.toNat
        · rw [decide_eq_true h4, if_pos h4]; rfl
        · rw [decide_eq_false h4, if_neg h4]; rfl
theorem compare.K1.known : compare.K1.Kn := compare.K1.Ac (.cons compare.Order.known .nil) fun a b hp => by
  have hp : (Ah a && Ah b) = true := hp
  refine ⟨0, compare.K1.out [.i a, .i b], [], ?_, .bool⟩
  rw [compare.K1.ev, hp, Aw]; rfl
theorem scale_loop (N : Nat) {a : Int} (ha : Ah a = true) : ∀ (k F m : Nat) (e : Int) (b : Bool), e = -1130 - (k : Int) → k < F → m < 2 ^ 53 → (m ≠ 0 ∨ b = true) → -9000 < e →
    compare.Ee.L0 N F a (m : Int) e b = some (.tup [.int .u64 (((Be (Bi a.toNat) 0, 3) : Nat × Nat).1 : Nat), .int .u8 (((Be (Bi a.toNat) 0, 3) : Nat × Nat).2 : Nat)]) := by
  have pre1 : Dn (0 : Int) (-1074 : Int) true = true := Ar.2 (by omega)
  intro k
  induction k with
  | zero =>
    intro F m e b he hF hm h0 _
    obtain ⟨F, rfl⟩ : ∃ G, F = G + 1 := ⟨F - 1, by omega⟩
    have hlt : A5 e (-1130 : Int) = false := by rw [Aw]; exact decide_eq_false (by omega)
    have Ql : Dn (m : Int) e b = true := Ar.2 (by omega)
    rw [compare.Ee.Az, hlt, Bool.false_and, cond_false, cond_false, ha, cond_true, Ql, cond_true]
    unfold Ea D9 C6
    rw [Int.toNat_natCast, near_tiny _ hm h0 (by omega)]
  | succ k ih =>
    intro F m e b he hF hm h0 hb
    obtain ⟨F, rfl⟩ : ∃ G, F = G + 1 := ⟨F - 1, by omega⟩
    have hlt : A5 e (-1130 : Int) = true := by rw [Aw]; exact decide_eq_true (by omega)
    rw [compare.Ee.Az, hlt, Bool.true_and, cond_true, Aw]
    by_cases h1 : (1 : Int) < (m : Int)
    · have em : Ct .u64 (m : Int) (1 : Int) = ((m / 2 ^ 1 : Nat) : Int) := Gk .u64 m 1 (by decide)
      rw [decide_eq_true h1, cond_true, em, Ap (by omega) (by omega)]
      exact ih F (m / 2 ^ 1) (e + 1) _ (by omega) (by omega) (by omega) (.inl (by omega)) (by omega)
    · rw [decide_eq_false h1, cond_false, ha, cond_true, pre1, cond_true]
      unfold Ea D9 C6
      rw [show (0 : Int).toNat = 0 from rfl, near_one]
theorem compare.Ee.known : compare.Ee.Kn := compare.Ee.Ac (.cons soft.Kind.known (.cons soft.Cs.known (.cons soft.Fa.known (.cons soft.Sign.known .nil)))) fun a n hp => by
  obtain ⟨ha, hn⟩ := Ag.1 (show Dp a n = true from hp)
  have hn := Ar.1 hn
  refine ⟨3000, compare.Ee.out [.i a, .i n], [], ?_, Wk.Gg (.cons .int (.cons .int .nil))⟩
  show _ = some (DV.tup [.int .u64 ((Fh a.toNat n).1 : Nat), .int .u8 ((Fh a.toNat n).2 : Nat)])
  have em : max (-2300 : Int) (min (2300 : Int) n) = n := by omega
  have pE := D7 a.toNat
  have pM := El a.toNat
  have ee : Ab (Ba a + n) = Ay a.toNat + n := by unfold Ba; exact Ap (by omega) (by omega)
  rw [compare.Ee.ev, ha, cond_true, cond_true, em, ee]
  unfold A7
  by_cases h4 : Ai a.toNat = 4
  · have e : (((Ai a.toNat : Nat) : Int) == (4 : Int)) = true := by rw [h4]; rfl
    rw [e, cond_true]
    unfold Fh
    rw [if_pos h4]; rfl
  have e4 : (((Ai a.toNat : Nat) : Int) == (4 : Int)) = false := P8 h4
  rw [e4, cond_false]
  by_cases h3 : Ai a.toNat = 3
  · have e : (((Ai a.toNat : Nat) : Int) == (3 : Int)) = true := by rw [h3]; rfl
    obtain ⟨k, rfl, hk⟩ := Bg ha
    rw [e, cond_true, cond_true]
    unfold Fh
    rw [if_neg h4, if_pos (.inl h3), Int.toNat_natCast]; rfl
  have e3 : (((Ai a.toNat : Nat) : Int) == (3 : Int)) = false := P8 h3
  rw [e3, cond_false]
  by_cases h0 : Ai a.toNat = 0
  · have e : (((Ai a.toNat : Nat) : Int) == (0 : Int)) = true := by rw [h0]; rfl
    obtain ⟨k, rfl, hk⟩ := Bg ha
    rw [e, cond_true]
    unfold Fh
    rw [if_neg h4, if_pos (.inr h0), Int.toNat_natCast]; rfl
  have e0 : (((Ai a.toNat : Nat) : Int) == (0 : Int)) = false := P8 h0
  have hk : ¬ (Ai a.toNat = 3 ∨ Ai a.toNat = 0) := fun h => h.elim h3 h0
  have hm : Aq a.toNat ≠ 0 := fun h => h0 ((H3 h3 h4).1 h)
  rw [e0, cond_false]
  show compare.Ee.L0 3000 3000 a (Aq a.toNat : Nat) (Ay a.toNat + n) false = _
  by_cases ht : Ay a.toNat + n ≤ -1130
  · rw [scale_tiny h4 hk ht]
    exact scale_loop 3000 ha (-1130 - (Ay a.toNat + n)).toNat 3000 _ _ false (by omega) (by omega) (by omega) (.inl hm) (by omega)
  · have hlt : A5 (Ay a.toNat + n) (-1130 : Int) = false := by rw [Aw]; exact decide_eq_false (by omega)
    have Ql : Dn ((Aq a.toNat : Nat) : Int) (Ay a.toNat + n) false = true := Ar.2 ⟨by omega, by omega, by omega, by omega, fun h => by cases h⟩
    rw [scale_num h4 hk, show (3000 : Nat) = 2999 + 1 from rfl, compare.Ee.Az, hlt, Bool.false_and, cond_false, cond_false, ha, cond_true, Ql, cond_true]
    unfold Ea D9 C6
    rw [Int.toNat_natCast, T9]
theorem Ae.Bj.known : Ae.Bj.Kn := Ae.Bj.Ac (.cons compare.Ee.known .nil) fun a n hp => by
  have hp : Dp a n = true := hp
  refine ⟨0, Ae.Bj.out [.i a, .i n], [], ?_, .int⟩
  rw [Ae.Bj.ev, hp]; rfl
theorem Ae.Div.known : Ae.Div.Kn := Ae.Div.Ac (.cons times.Div.known .nil) fun a b hp => by
  have hp : (Ah a && Ah b) = true := hp
  refine ⟨0, Ae.Div.out [.i a, .i b], [], ?_, .int⟩
  rw [Ae.Div.ev, hp]; rfl
theorem Ih {l : List Int} {i : Nat} (h : i < l.length) : l.drop i = l.getD i 0 :: l.drop (i + 1) := by
  rw [List.drop_eq_getElem_cons h, List.getD_eq_getElem?_getD, List.getElem?_eq_getElem h]; rfl
theorem Ks {l : List Int} (h : Di l = true) : l.length < 4611686018427387904 ∧ ∀ j, j < l.length → Ah (l.getD j 0) = true := by
  obtain ⟨h1, h2⟩ := Ar.1 h
  exact ⟨h1, fun j hj => by rw [List.getD_eq_getElem?_getD, List.getElem?_eq_getElem hj]; exact h2 _ (List.getElem_mem hj)⟩
theorem Jg {l : List Int} (h : An l = true) (hl : l.length ≤ 1000) : Di l = true := Ar.2 ⟨by omega, Ar.1 h⟩
theorem finite_loop (N : Nat) {x : List Int} (hx : Di x = true) : ∀ (k i F : Nat), i + k = x.length → k < F → Ae.Finite.L0 N F x (i : Int) = some (.bool ((x.drop i).all C8)) := by
  obtain ⟨hl, hu⟩ := Ks hx
  intro k
  induction k with
  | zero =>
    intro i F hi hF
    obtain ⟨F, rfl⟩ : ∃ G, F = G + 1 := ⟨F - 1, by omega⟩
    rw [Ae.Finite.Az, Aw, decide_eq_false (by omega), cond_false, List.drop_of_length_le (by omega)]; rfl
  | succ k ih =>
    intro i F hi hF
    obtain ⟨F, rfl⟩ : ∃ G, F = G + 1 := ⟨F - 1, by omega⟩
    rw [Ae.Finite.Az, Aw, decide_eq_true (show (i : Int) < (x.length : Int) by omega), cond_true, decide_eq_true (show (0 : Int) ≤ (i : Int) by omega), Bool.and_self, cond_true, Int.toNat_natCast, hu i (by omega), cond_true, Ih (by omega), List.all_cons]
    cases C8 (x.getD i 0) with
    | false => rfl
    | true =>
      rw [Bool.not_true, cond_false, Ap (by omega) (by omega), Bool.true_and]
      exact ih (i + 1) F (by omega) (by omega)
theorem Ae.Finite.known : Ae.Finite.Kn := Ae.Finite.Ac (.cons soft.Finite.known .nil) fun x hp => by
  have hp : Di x = true := hp
  refine ⟨x.length + 1, Ae.Finite.out [.l x], [], ?_, .bool⟩
  show _ = some (DV.bool (x.all C8))
  rw [Ae.Finite.ev]
  exact finite_loop _ hp x.length 0 (x.length + 1) (by omega) (by omega)
theorem bigP_drop {x : List Int} {i : Nat} (h : i < x.length) (m : Nat) : W1 (x.drop i) m = if Ai (x.getD i 0).toNat = 4 then Pu else W1 (x.drop (i + 1)) (max m (Fz (x.getD i 0).toNat)) := by
  rw [Ih h]; rfl
theorem Aad (N : Nat) {x : List Int} (hx : Di x = true) : ∀ (k i F m : Nat), i + k = x.length → k < F → Ae.Cm.L0 N F x (m : Int) (i : Int) = some (.int .u64 ((W1 (x.drop i) m : Nat) : Int)) := by
  obtain ⟨hl, hu⟩ := Ks hx
  intro k
  induction k with
  | zero =>
    intro i F m hi hF
    obtain ⟨F, rfl⟩ : ∃ G, F = G + 1 := ⟨F - 1, by omega⟩
    rw [Ae.Cm.Az, Aw, decide_eq_false (by omega), cond_false, List.drop_of_length_le (by omega)]; rfl
  | succ k ih =>
    intro i F m hi hF
    obtain ⟨F, rfl⟩ : ∃ G, F = G + 1 := ⟨F - 1, by omega⟩
    rw [Ae.Cm.Az, Aw, decide_eq_true (show (i : Int) < (x.length : Int) by omega), cond_true, decide_eq_true (show (0 : Int) ≤ (i : Int) by omega), Bool.and_self, cond_true, Int.toNat_natCast, hu i (by omega), cond_true, bigP_drop (by omega)]
    unfold A7
    by_cases h4 : Ai (x.getD i 0).toNat = 4
    · have e : (((Ai (x.getD i 0).toNat : Nat) : Int) == (4 : Int)) = true := by rw [h4]; rfl
      rw [e, cond_true, if_pos h4]; rfl
    · have e : (((Ai (x.getD i 0).toNat : Nat) : Int) == (4 : Int)) = false := P8 h4
      have em : max (m : Int) (Ix (x.getD i 0)) = ((max m (Fz (x.getD i 0).toNat) : Nat) : Int) := by unfold Ix; omega
      rw [e, cond_false, cond_true, if_neg h4, em, Ap (by omega) (by omega)]
      exact ih (i + 1) F _ (by omega) (by omega)
theorem Ae.Cm.known : Ae.Cm.Kn := Ae.Cm.Ac (.cons compare.Gm.known (.cons soft.Kind.known .nil)) fun x hp => by
  have hp : Di x = true := hp
  refine ⟨x.length + 1, Ae.Cm.out [.l x], [], ?_, .int⟩
  rw [Ae.Cm.ev]
  exact Aad _ hp x.length 0 (x.length + 1) 0 (by omega) (by omega)
theorem Aac (N : Nat) {x : List Int} (hx : Di x = true) : ∀ (k i F : Nat), i + k = x.length → k < F → Cg.Check.L0 N F x (i : Int) = some (.int .i64 (if (x.drop i).all C8 = true then 0 else 4)) := by
  obtain ⟨hl, hu⟩ := Ks hx
  intro k
  induction k with
  | zero =>
    intro i F hi hF
    obtain ⟨F, rfl⟩ : ∃ G, F = G + 1 := ⟨F - 1, by omega⟩
    rw [Cg.Check.Az, Aw, decide_eq_false (by omega), cond_false, List.drop_of_length_le (by omega)]; rfl
  | succ k ih =>
    intro i F hi hF
    obtain ⟨F, rfl⟩ : ∃ G, F = G + 1 := ⟨F - 1, by omega⟩
    rw [Cg.Check.Az, Aw, decide_eq_true (show (i : Int) < (x.length : Int) by omega), cond_true, decide_eq_true (show (0 : Int) ≤ (i : Int) by omega), Bool.and_self, cond_true, Int.toNat_natCast, hu i (by omega), cond_true, Ih (by omega), List.all_cons]
    cases C8 (x.getD i 0) with
    | false => rfl
    | true =>
      rw [Bool.not_true, cond_false, Ap (by omega) (by omega), Bool.true_and]
      exact ih (i + 1) F (by omega) (by omega)
theorem Mz {r c : Int} {l : List Int} (h : Bn r c l = true) : l.length ≤ 36 := by
  obtain ⟨R, C, rfl, rfl, r6, c6, hl⟩ := Da h
  have := Nat.mul_le_mul r6 c6
  omega
theorem Cg.Check.known : Cg.Check.Kn := Cg.Check.Ac (.cons Aa.Check.known (.cons soft.Finite.known .nil)) fun r c l hp => by
  have hp : An l = true := hp
  refine ⟨l.length + 1, Cg.Check.out [.i r, .i c, .l l], [], ?_, .int⟩
  show _ = some (DV.int .i64 (Bu r c l))
  rw [Cg.Check.ev]
  unfold Jm Bu Ev
  by_cases h : Bn r c l = true
  · have := Mz h
    rw [if_pos h, if_pos h]
    have e : ((0 : Int) != (0 : Int)) = false := by decide
    rw [e, cond_false]
    exact Aac _ (Jg hp (by omega)) l.length 0 (l.length + 1) (by omega) (by omega)
  · rw [if_neg h, if_neg h]; rfl
end Go.Proofs.S1
namespace Go.Proofs.S1
open Go Go.Den Go.Rnd Go.Proofs Ieee
theorem quo_ieee {m n : Nat} (hm : m ≠ 0) (hn : n ≠ 0) (lm : m < 2 ^ 53) (ln : n < 2 ^ 53) (i j : Int) :
    B5 (Ei m n (54 + n.log2 - m.log2)) (i - j - ((54 + n.log2 - m.log2 : Nat) : Int) - 1) = B5 (Ei m n 120) (i - j - 121) := by
  have l1 := (Nat.log2_lt hm).2 lm
  have a1 := Nat.log2_self_le hm
  have a2 := Nat.lt_log2_self (n := n)
  have g1 : 2 ^ 53 ≤ m * 2 ^ (54 + n.log2 - m.log2) / n := by
    rw [Nat.le_div_iff_mul_le (by omega)]
    have h1 : 2 ^ m.log2 * 2 ^ (54 + n.log2 - m.log2) ≤ m * 2 ^ (54 + n.log2 - m.log2) := Nat.mul_le_mul_right _ a1
    have h2 : 2 ^ m.log2 * 2 ^ (54 + n.log2 - m.log2) = 2 ^ 53 * 2 ^ (n.log2 + 1) := by
      rw [← Nat.pow_add, ← Nat.pow_add]
      congr 1
      omega
    have h3 : 2 ^ 53 * n ≤ 2 ^ 53 * 2 ^ (n.log2 + 1) := Nat.mul_le_mul_left _ (by omega)
    omega
  have g2 : 2 ^ 53 ≤ m * 2 ^ 120 / n := quo_ge (t := 53) (by omega) (by omega) ln (by omega)
  exact (Vf (by omega) g1 g2 (by omega)).1
theorem quo_num (s t : Bool) (m : Nat) (i : Int) (n : Nat) (j : Int) (hn : n ≠ 0) : (Datum.number s m i).quotient 54 (.number t n j) =
    some (.number (s ^^ t) (Ei m n (54 + n.log2 - m.log2)) (i - j - ((54 + n.log2 - m.log2 : Nat) : Int) - 1)) := by
  have e : (Datum.number s m i).quotient 54 (.number t n j) = some (.number (s ^^ t) (2 * (m <<< (54 + n.log2 - m.log2) / n) + (m <<< (54 + n.log2 - m.log2) % n != 0).toNat) (i - j - ((54 + n.log2 - m.log2 : Nat) : Int) - 1)) := if_neg hn
  rw [e, Nat.shiftLeft_eq]
  unfold Ei
  congr 3
  by_cases h : m * 2 ^ (54 + n.log2 - m.log2) % n = 0
  · rw [if_pos h, h]; rfl
  · have : (m * 2 ^ (54 + n.log2 - m.log2) % n != 0) = true := by simpa using h
    rw [if_neg h, this]; rfl
theorem div_ieee {a b : Nat} (ha : a < 2 ^ 64) (hb : b < 2 ^ 64) {d : Nat} (hd : Ai d = 4) : Dj ((Ieee.double.div a b).getD d) = (Uo a b).1 := by
  have cd : Dj d = Pu := if_pos hd
  have ex : ∀ s t : Bool, (s ^^ t) = (s != t) := fun s t => by cases s <;> cases t <;> rfl
  have e54 : Ieee.double.fractionBits + 2 = 54 := rfl
  unfold Format.div
  rw [Jp ha, Jp hb, e54]
  unfold Uo
  by_cases a4 : Ai a = 4
  · rw [if_pos (.inl a4), Gn a4]; exact cd
  · by_cases b4 : Ai b = 4
    · rw [if_pos (.inr b4), Gn b4]
      by_cases a3 : Ai a = 3
      · rw [Dx a3]; exact cd
      · rw [Dw a3 a4]; exact cd
    · rw [if_neg (fun h => h.elim a4 b4)]
      by_cases a3 : Ai a = 3
      · rw [Dx a3]
        by_cases b3 : Ai b = 3
        · rw [Dx b3, if_pos ⟨by omega, .inl a3⟩]; exact cd
        · rw [Dw b3 b4, if_neg (by omega), if_pos a3]
          show Dj (Be (Bi a ^^ Bi b) Dt) = _
          rw [Go.Proofs.S1.La, ex]
      · rw [Dw a3 a4]
        by_cases b3 : Ai b = 3
        · rw [Dx b3, if_neg (by omega), if_neg a3, if_pos (.inl b3)]
          show Dj (Ieee.double.write (.number (Bi a ^^ Bi b) 0 0)) = _
          rw [Px, P4, ex]
          exact He _ (Nat.zero_le _)
        · rw [Dw b3 b4]
          have za := Sh a3 a4
          have zb := Sh b3 b4
          by_cases b0 : Ai b = 0
          · by_cases a0 : Ai a = 0
            · have e : (Datum.number (Bi a) (Aq a) (Ay a)).quotient 54 (.number (Bi b) (Aq b) (Ay b)) = none := by
                show (if Aq b = 0 then (if Aq a = 0 then none else _) else _) = _
                rw [if_pos (zb.2 b0), if_pos (za.2 a0)]
              rw [e, if_pos ⟨by omega, .inr a0⟩]; exact cd
            · have e : (Datum.number (Bi a) (Aq a) (Ay a)).quotient 54 (.number (Bi b) (Aq b) (Ay b)) = some (.infinity (Bi a ^^ Bi b)) := by
                show (if Aq b = 0 then (if Aq a = 0 then none else _) else _) = _
                rw [if_pos (zb.2 b0), if_neg (fun k => a0 (za.1 k))]
              rw [e, if_neg (by omega), if_neg a3, if_neg (by omega), if_pos b0]
              show Dj (Be (Bi a ^^ Bi b) Dt) = _
              rw [Go.Proofs.S1.La, ex]
          · have hn : Aq b ≠ 0 := fun k => b0 (zb.1 k)
            rw [quo_num _ _ _ _ _ _ hn, if_neg (by omega), if_neg a3]
            show Dj (Ieee.double.write (.number _ _ _)) = _
            rw [Px, He _ (L4 _ _), ex]
            by_cases a0 : Ai a = 0
            · rw [if_pos (.inr a0), za.2 a0]
              have : Ei 0 (Aq b) (54 + (Aq b).log2 - Nat.log2 0) = 0 := by
                unfold Ei
                rw [Nat.zero_mul, Nat.zero_div, Nat.zero_mod, if_pos rfl]
              rw [this, P4]
            · have hm : Aq a ≠ 0 := fun k => a0 (za.1 k)
              have la := El a
              have lb := El b
              rw [if_neg (by omega), if_neg b0, quo_ieee hm hn (by omega) (by omega)]
end Go.Proofs.S1
namespace Go.Rnd
open Go.Den
theorem digit_step {P root rest two : Nat} (h1 : P = root * root + rest) (h2 : rest ≤ 2 * root) (h3 : two < 4) :
    (4 * root + 1 ≤ 4 * rest + two → 4 * P + two = (2 * root + 1) * (2 * root + 1) + (4 * rest + two - (4 * root + 1)) ∧ 4 * rest + two - (4 * root + 1) ≤ 2 * (2 * root + 1)) ∧
    (4 * rest + two < 4 * root + 1 → 4 * P + two = (2 * root) * (2 * root) + (4 * rest + two) ∧ 4 * rest + two ≤ 2 * (2 * root)) := by
  have e1 : (2 * root + 1) * (2 * root + 1) = 4 * (root * root) + (4 * root + 1) := by
    rw [Nat.add_mul, Nat.mul_add, Nat.mul_add]
    have : 2 * root * (2 * root) = 4 * (root * root) := by rw [Nat.mul_mul_mul_comm]
    omega
  have e2 : (2 * root) * (2 * root) = 4 * (root * root) := by rw [Nat.mul_mul_mul_comm]
  constructor
  · intro h; rw [e1]; omega
  · intro h; rw [e2]; omega
theorem root_of {P root rest : Nat} (h1 : P = root * root + rest) (h2 : rest ≤ 2 * root) : root = Rs P := by
  refine Wh (by omega) ?_
  have : (root + 1) * (root + 1) = root * root + 2 * root + 1 := by rw [Nat.add_mul, Nat.mul_add]; omega
  omega
end Go.Rnd
end
