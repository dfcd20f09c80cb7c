/- The reference's Check: what it answers a request. Conditions: those named. -/
import Derived.Test.YtmjlfknkembhnaaDoorRefGet0
import Derived.Test.YtmjlfknkembhnaaDoorRefGet1
import Derived.Test.YtmjlfknkembhnaaDoorRefGet2
import Derived.Test.YtmjlfknkembhnaaDoorRefGet3
import Derived.Test.YtmjlfknkembhnaaDoorRefTakes
import Derived.Test.YtmjlfknkembhnaaDoorCheck
namespace Go.Proofs.YtmjlfknkembhnaaDoor
open Go Go.RowKit
theorem rGet_in (n : Nat) (w : World) (h1 : 1 ≤ n) (h2 : n ≤ 64) : Calls Tryd.prog 15 #[.int .i64 n] w fun e w' =>
    e = .returned (.tuple #[.agg #[.string (nameOf n), .string (shapeOf n), .int .i64 (gateOf n), .int .u32 (needA n), .int .u32 (needB n)], .bool true]) ∧ Below w.heap.size w w' := by
  match n, h1, h2 with
  | 1, _, _ => exact rget1 w
  | 2, _, _ => exact rget2 w
  | 3, _, _ => exact rget3 w
  | 4, _, _ => exact rget4 w
  | 5, _, _ => exact rget5 w
  | 6, _, _ => exact rget6 w
  | 7, _, _ => exact rget7 w
  | 8, _, _ => exact rget8 w
  | 9, _, _ => exact rget9 w
  | 10, _, _ => exact rget10 w
  | 11, _, _ => exact rget11 w
  | 12, _, _ => exact rget12 w
  | 13, _, _ => exact rget13 w
  | 14, _, _ => exact rget14 w
  | 15, _, _ => exact rget15 w
  | 16, _, _ => exact rget16 w
  | 17, _, _ => exact rget17 w
  | 18, _, _ => exact rget18 w
  | 19, _, _ => exact rget19 w
  | 20, _, _ => exact rget20 w
  | 21, _, _ => exact rget21 w
  | 22, _, _ => exact rget22 w
  | 23, _, _ => exact rget23 w
  | 24, _, _ => exact rget24 w
  | 25, _, _ => exact rget25 w
  | 26, _, _ => exact rget26 w
  | 27, _, _ => exact rget27 w
  | 28, _, _ => exact rget28 w
  | 29, _, _ => exact rget29 w
  | 30, _, _ => exact rget30 w
  | 31, _, _ => exact rget31 w
  | 32, _, _ => exact rget32 w
  | 33, _, _ => exact rget33 w
  | 34, _, _ => exact rget34 w
  | 35, _, _ => exact rget35 w
  | 36, _, _ => exact rget36 w
  | 37, _, _ => exact rget37 w
  | 38, _, _ => exact rget38 w
  | 39, _, _ => exact rget39 w
  | 40, _, _ => exact rget40 w
  | 41, _, _ => exact rget41 w
  | 42, _, _ => exact rget42 w
  | 43, _, _ => exact rget43 w
  | 44, _, _ => exact rget44 w
  | 45, _, _ => exact rget45 w
  | 46, _, _ => exact rget46 w
  | 47, _, _ => exact rget47 w
  | 48, _, _ => exact rget48 w
  | 49, _, _ => exact rget49 w
  | 50, _, _ => exact rget50 w
  | 51, _, _ => exact rget51 w
  | 52, _, _ => exact rget52 w
  | 53, _, _ => exact rget53 w
  | 54, _, _ => exact rget54 w
  | 55, _, _ => exact rget55 w
  | 56, _, _ => exact rget56 w
  | 57, _, _ => exact rget57 w
  | 58, _, _ => exact rget58 w
  | 59, _, _ => exact rget59 w
  | 60, _, _ => exact rget60 w
  | 61, _, _ => exact rget61 w
  | 62, _, _ => exact rget62 w
  | 63, _, _ => exact rget63 w
  | 64, _, _ => exact rget64 w
  | n + 65, _, h => exact absurd h (by omega)
set_option maxRecDepth 100000 in
set_option maxHeartbeats 4000000 in
theorem rGet_out (n : Int) (w : World) (h : n < 1 ∨ 64 < n) : Calls Tryd.prog 15 #[.int .i64 n] w fun e w' =>
    e = .returned (.tuple #[.agg #[.string ByteArray.empty, .string ByteArray.empty, .int .i64 0, .int .u32 0, .int .u32 0], .bool false]) ∧ Below w.heap.size w w' := by
  have e1 : (n == 1) = false := beq_eq_false_iff_ne.2 (by omega)
  have e2 : (n == 2) = false := beq_eq_false_iff_ne.2 (by omega)
  have e3 : (n == 3) = false := beq_eq_false_iff_ne.2 (by omega)
  have e4 : (n == 4) = false := beq_eq_false_iff_ne.2 (by omega)
  have e5 : (n == 5) = false := beq_eq_false_iff_ne.2 (by omega)
  have e6 : (n == 6) = false := beq_eq_false_iff_ne.2 (by omega)
  have e7 : (n == 7) = false := beq_eq_false_iff_ne.2 (by omega)
  have e8 : (n == 8) = false := beq_eq_false_iff_ne.2 (by omega)
  have e9 : (n == 9) = false := beq_eq_false_iff_ne.2 (by omega)
  have e10 : (n == 10) = false := beq_eq_false_iff_ne.2 (by omega)
  have e11 : (n == 11) = false := beq_eq_false_iff_ne.2 (by omega)
  have e12 : (n == 12) = false := beq_eq_false_iff_ne.2 (by omega)
  have e13 : (n == 13) = false := beq_eq_false_iff_ne.2 (by omega)
  have e14 : (n == 14) = false := beq_eq_false_iff_ne.2 (by omega)
  have e15 : (n == 15) = false := beq_eq_false_iff_ne.2 (by omega)
  have e16 : (n == 16) = false := beq_eq_false_iff_ne.2 (by omega)
  have e17 : (n == 17) = false := beq_eq_false_iff_ne.2 (by omega)
  have e18 : (n == 18) = false := beq_eq_false_iff_ne.2 (by omega)
  have e19 : (n == 19) = false := beq_eq_false_iff_ne.2 (by omega)
  have e20 : (n == 20) = false := beq_eq_false_iff_ne.2 (by omega)
  have e21 : (n == 21) = false := beq_eq_false_iff_ne.2 (by omega)
  have e22 : (n == 22) = false := beq_eq_false_iff_ne.2 (by omega)
  have e23 : (n == 23) = false := beq_eq_false_iff_ne.2 (by omega)
  have e24 : (n == 24) = false := beq_eq_false_iff_ne.2 (by omega)
  have e25 : (n == 25) = false := beq_eq_false_iff_ne.2 (by omega)
  have e26 : (n == 26) = false := beq_eq_false_iff_ne.2 (by omega)
  have e27 : (n == 27) = false := beq_eq_false_iff_ne.2 (by omega)
  have e28 : (n == 28) = false := beq_eq_false_iff_ne.2 (by omega)
  have e29 : (n == 29) = false := beq_eq_false_iff_ne.2 (by omega)
  have e30 : (n == 30) = false := beq_eq_false_iff_ne.2 (by omega)
  have e31 : (n == 31) = false := beq_eq_false_iff_ne.2 (by omega)
  have e32 : (n == 32) = false := beq_eq_false_iff_ne.2 (by omega)
  have e33 : (n == 33) = false := beq_eq_false_iff_ne.2 (by omega)
  have e34 : (n == 34) = false := beq_eq_false_iff_ne.2 (by omega)
  have e35 : (n == 35) = false := beq_eq_false_iff_ne.2 (by omega)
  have e36 : (n == 36) = false := beq_eq_false_iff_ne.2 (by omega)
  have e37 : (n == 37) = false := beq_eq_false_iff_ne.2 (by omega)
  have e38 : (n == 38) = false := beq_eq_false_iff_ne.2 (by omega)
  have e39 : (n == 39) = false := beq_eq_false_iff_ne.2 (by omega)
  have e40 : (n == 40) = false := beq_eq_false_iff_ne.2 (by omega)
  have e41 : (n == 41) = false := beq_eq_false_iff_ne.2 (by omega)
  have e42 : (n == 42) = false := beq_eq_false_iff_ne.2 (by omega)
  have e43 : (n == 43) = false := beq_eq_false_iff_ne.2 (by omega)
  have e44 : (n == 44) = false := beq_eq_false_iff_ne.2 (by omega)
  have e45 : (n == 45) = false := beq_eq_false_iff_ne.2 (by omega)
  have e46 : (n == 46) = false := beq_eq_false_iff_ne.2 (by omega)
  have e47 : (n == 47) = false := beq_eq_false_iff_ne.2 (by omega)
  have e48 : (n == 48) = false := beq_eq_false_iff_ne.2 (by omega)
  have e49 : (n == 49) = false := beq_eq_false_iff_ne.2 (by omega)
  have e50 : (n == 50) = false := beq_eq_false_iff_ne.2 (by omega)
  have e51 : (n == 51) = false := beq_eq_false_iff_ne.2 (by omega)
  have e52 : (n == 52) = false := beq_eq_false_iff_ne.2 (by omega)
  have e53 : (n == 53) = false := beq_eq_false_iff_ne.2 (by omega)
  have e54 : (n == 54) = false := beq_eq_false_iff_ne.2 (by omega)
  have e55 : (n == 55) = false := beq_eq_false_iff_ne.2 (by omega)
  have e56 : (n == 56) = false := beq_eq_false_iff_ne.2 (by omega)
  have e57 : (n == 57) = false := beq_eq_false_iff_ne.2 (by omega)
  have e58 : (n == 58) = false := beq_eq_false_iff_ne.2 (by omega)
  have e59 : (n == 59) = false := beq_eq_false_iff_ne.2 (by omega)
  have e60 : (n == 60) = false := beq_eq_false_iff_ne.2 (by omega)
  have e61 : (n == 61) = false := beq_eq_false_iff_ne.2 (by omega)
  have e62 : (n == 62) = false := beq_eq_false_iff_ne.2 (by omega)
  have e63 : (n == 63) = false := beq_eq_false_iff_ne.2 (by omega)
  have e64 : (n == 64) = false := beq_eq_false_iff_ne.2 (by omega)
  clear h
  go_enter Tryd.func15, Tryd.ntmps15
  go_wp2
  have c := fun j => World.cell?_alloc_new w #[Value.string ByteArray.empty, .string ByteArray.empty, .int .i64 0, .int .u32 0, .int .u32 0] 36 j
  exact bodyPost_ret (results_rget rfl rfl (c 0) (c 1) (c 2) (c 3) (c 4)) rfl ⟨rfl, (Below.refl _ _).alloc (Nat.le_refl _) _⟩
end Go.Proofs.YtmjlfknkembhnaaDoor
