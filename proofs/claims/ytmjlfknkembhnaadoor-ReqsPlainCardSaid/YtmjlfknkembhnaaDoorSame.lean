/- The reference's Same, at two requests of the same content. Conditions: those named. -/
import Derived.Test.YtmjlfknkembhnaaDoorPlain
import Derived.Deep.QuietTactic
import Derived.BigQuiet
import Derived.IntWalk
import Derived.ChangeKeysEq
namespace Go.Proofs.YtmjlfknkembhnaaDoor
open Go Go.ChangeShapes Go.WideShapes Go.ChangeAt Go.RowKit
theorem eq22 (W : World) (a0 a1 a2 a3 a4 : Int) : (Op.equalIn 10000 22 (.agg #[.int .i64 a0, .int .i64 a1, .int .i64 a2, .int .i64 a3, .int .i64 a4]) (.agg #[.int .i64 a0, .int .i64 a1, .int .i64 a2, .int .i64 a3, .int .i64 a4])).run Tryd.prog W = .ok true W := by
  obtain ⟨i, hi, -, -, -⟩ := info_parts info3
  rw [run_equalIn_array W 9999 _ _ Tryd.underlying22 hi, cells3]
  have hr : List.range 5 = [0, 1, 2, 3, 4] := rfl
  simp only [hr, Op.eqItems, Sem.run_bind]
  simp [go_sem, Tryd.underlying3]
theorem below_drewN {B : Nat} {a w : World} (h : Below B a w) (n : Nat) : Below B a (w.drewN n) := ⟨h.os, h.tape, h.output, h.size, h.block⟩
attribute [local go_sem] eq22
set_option maxRecDepth 100000 in
set_option maxHeartbeats 4000000 in
theorem same_m (no a0 a1 a2 a3 a4 : Int) (s t : ByteArray) (zs : List Int) (m : Nat) (hm : Hid (zs.length = m)) (hl : m ≤ 100) (A B : Option Addr) (c d : Nat) (w : World) (hA : Ints w A zs) (hB : Ints w B zs) :
    Calls Tryd.prog 17 #[.agg #[.int .i64 no, .int .i64 a0, .int .i64 a1, .int .i64 a2, .int .i64 a3, .int .i64 a4, .string s, .string t, .slice A m c], .agg #[.int .i64 no, .int .i64 a0, .int .i64 a1, .int .i64 a2, .int .i64 a3, .int .i64 a4, .string s, .string t, .slice B m d]] w fun e w' =>
      e = .returned (.bool true) ∧ Below w.heap.size w w' := by
  have HA := Lib.hid hA; clear hA
  have HB := Lib.hid hB; clear hB
  have HL := Lib.hid hl; clear hl
  go_enter Tryd.func17, Tryd.ntmps17
  go_wp2_with fail
  obtain ⟨W, hW⟩ : ∃ W, (w.alloc (.cells #[.int .i64 no, .int .i64 a0, .int .i64 a1, .int .i64 a2, .int .i64 a3, .int .i64 a4, .string s, .string t, .slice A m c] 25)).alloc (.cells #[.int .i64 no, .int .i64 a0, .int .i64 a1, .int .i64 a2, .int .i64 a3, .int .i64 a4, .string s, .string t, .slice B m d] 25) = W := ⟨_, rfl⟩
  obtain ⟨hbx, hrx, hfx, hgx, hB1, hsz⟩ := two_boxes (w1 := W) (by rw [hW]; exact Below.refl _ _)
  rw [hW]
  clear hW
  have c8 : W.cell? ⟨w.heap.size, 8, none⟩ = some (.slice A m c) := hbx 8
  have d8 : W.cell? ⟨w.heap.size + 1, 8, none⟩ = some (.slice B m d) := hrx 8
  have HAW := Lib.hid (HA.out.below hB1)
  have HBW := Lib.hid (HB.out.below hB1)
  have HBel := Lib.hid hB1
  clear hbx hrx hfx hgx hB1 hsz
  go_loopw [5] (fun v wr => ∃ k : Nat, v = .int .i64 k ∧ k ≤ m ∧ wr.cell? ⟨w.heap.size, 8, none⟩ = some (.slice A m c) ∧ wr.cell? ⟨w.heap.size + 1, 8, none⟩ = some (.slice B m d) ∧ Hid (Below W.heap.size W wr)) (fun v _ => m - (intOf v).toNat)
  case atStart => exact ⟨0, rfl, Nat.zero_le _, c8, d8, Lib.hid (Below.refl _ _)⟩
  case round =>
    obtain ⟨k, rfl, hk, e8, f8, hbel⟩ := hrel
    have h0k : (0 : Int) ≤ (k : Int) := by omega
    have hm100 : m ≤ 100 := HL.out
    by_cases hlt : k < m
    · obtain ⟨b, off, rfl, hbl, hcell⟩ := HAW.out k (by rw [hm.out]; exact hlt)
      obtain ⟨b', off', rfl, hbl', hcell'⟩ := HBW.out k (by rw [hm.out]; exact hlt)
      have g1 := (hbel.out.cell (p := ⟨b, off + k, none⟩) hbl).trans hcell
      have g2 := (hbel.out.cell (p := ⟨b', off' + k, none⟩) hbl').trans hcell'
      have hlt' : (k : Int) < (m : Int) := by omega
      clear hcell hcell'
      go_wp2_with fail
      go_quiet (fail)
      go_wp2_with fail
      go_roundw
      case rel => exact ⟨k + 1, by go_num, by omega, e8, f8, Lib.hid (below_drewN hbel.out nq)⟩
      case measure => simp [intOf]; omega
    · have hlt' : ¬ (k : Int) < (m : Int) := by omega
      go_wp2_with fail
      go_ret
      exact ⟨rfl, HBel.out.trans (hbel.out.mono HBel.out.size)⟩
end Go.Proofs.YtmjlfknkembhnaaDoor
