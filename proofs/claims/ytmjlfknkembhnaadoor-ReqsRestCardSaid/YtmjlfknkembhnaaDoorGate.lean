/- calls.Gate, of a call of the table. Conditions: those named. -/
import Derived.Test.YtmjlfknkembhnaaDoorPlain
namespace Go.Proofs.YtmjlfknkembhnaaDoor
open Go Go.ChangeShapes Go.WideShapes Go.ChangeAt Go.RowKit
/-- The answer of a gate. -/
def gateV (cap : Bool) (g : Int) (hit : Bool) : Int := if (cap && (g == 1 || (g == 2 && hit))) = true then 94 else 0
theorem in_table {no : Int} {xs : List Int} {S T : Nat} {zs : List Int} (h : checkP no xs S T zs = 0) : 1 ≤ no ∧ no ≤ 64 := by
  unfold checkP at h
  split at h
  · cases h
  · omega
set_option maxRecDepth 100000 in
set_option maxHeartbeats 2000000 in
theorem gate25 (n : Nat) (h1 : 1 ≤ n) (h2 : n ≤ 64) (dir : Int) (cap : Bool) (w : World) (hG : Gl w) :
    Calls Tryd.prog 25 #[.int .i64 n, .int .i64 dir, .bool cap] w fun e w' => e = .returned (.int .i64 (gateV cap (gateOf n) (dir == -100))) ∧ Below w.heap.size w w' := by
  have HG := Lib.hid hG; clear hG
  have H1 := Lib.hid h1; clear h1
  have H2 := Lib.hid h2; clear h2
  generalize hg : gateOf n = g
  have Hg := Lib.hid hg; clear hg
  have hget : ∀ W : World, Gl W → Calls Tryd.prog 24 #[.int .i64 n] W fun e w' => e = .returned (.tuple #[.agg #[.string (nameOf n), .string (shapeOf n), .int .i64 g, .int .u32 (needA n), .int .u32 (needB n)], .bool true]) ∧ Below W.heap.size W w' := fun W hW => by
    rw [← Hg.out]; exact Get_in n W hW H1.out H2.out
  have HGET := Lib.hid hget; clear hget
  cases cap with
  | false =>
    go_enter Tryd.func25, Tryd.ntmps25
    go_wp2_with fail
    refine (HGET.out w HG.out).mono ?_
    rintro e w1 ⟨rfl, hb⟩
    go_wp2_with fail
    go_ret
    exact ⟨by simp [gateV], (hb.alloc hb.size _)⟩
  | true =>
    by_cases g1 : g = 1
    · subst g1
      go_enter Tryd.func25, Tryd.ntmps25
      go_wp2_with fail
      refine (HGET.out w HG.out).mono ?_
      rintro e w1 ⟨rfl, hb⟩
      go_wp2_with fail
      go_ret
      exact ⟨by simp [gateV], (hb.alloc hb.size _)⟩
    · have e1 : (g == 1) = false := by simpa using g1
      by_cases g2 : g = 2
      · subst g2
        by_cases hd : dir = -100
        · subst hd
          go_enter Tryd.func25, Tryd.ntmps25
          go_wp2_with fail
          refine (HGET.out w HG.out).mono ?_
          rintro e w1 ⟨rfl, hb⟩
          go_wp2_with fail
          go_ret
          exact ⟨by simp [gateV], (hb.alloc hb.size _)⟩
        · have e3 : (dir == -100) = false := by simpa using hd
          go_enter Tryd.func25, Tryd.ntmps25
          go_wp2_with fail
          refine (HGET.out w HG.out).mono ?_
          rintro e w1 ⟨rfl, hb⟩
          go_wp2_with fail
          go_ret
          exact ⟨by simp [gateV, e3], (hb.alloc hb.size _)⟩
      · have e2 : (g == 2) = false := by simpa using g2
        go_enter Tryd.func25, Tryd.ntmps25
        go_wp2_with fail
        refine (HGET.out w HG.out).mono ?_
        rintro e w1 ⟨rfl, hb⟩
        go_wp2_with fail
        go_ret
        exact ⟨by simp [gateV, e1, e2], (hb.alloc hb.size _)⟩
end Go.Proofs.YtmjlfknkembhnaaDoor
