/- rights.Bit: the right of a name. Conditions: the library's table of white space as its initialiser lays it. -/
import Derived.Test.YtmjlfknkembhnaaDoorFields
namespace Go.Proofs.YtmjlfknkembhnaaDoor
open Go.RowKit
def rnamesB : List ByteArray := rnames.map fun l => ⟨l.toArray⟩
theorem rnamesB_len : rnamesB.length = 32 := by rw [rnamesB, List.length_map, rnames_len]
theorem rnamesB_at (j : Nat) : rnamesB.getD j ByteArray.empty = ⟨(rnames.getD j []).toArray⟩ := by
  unfold rnamesB
  simp only [List.getD_eq_getElem?_getD, List.getElem?_map]
  cases rnames[j]? <;> rfl
/-- The place of a name among the rights. -/
def bitAt (x : ByteArray) : Int := Lib.idxOfS rnamesB x
def bitV (x : ByteArray) : Int := if bitAt x < 0 then 0 else 2 ^ (bitAt x).toNat % 4294967296
def bitB (x : ByteArray) : Bool := !decide (bitAt x < 0)
theorem idxFromS_lt (x : ByteArray) : ∀ (zs : List ByteArray) (i : Nat), Lib.idxFromS zs x i < ((i + zs.length : Nat) : Int)
  | [], i => by simp [Lib.idxFromS]; omega
  | z :: zs, i => by
    unfold Lib.idxFromS
    have := idxFromS_lt x zs (i + 1)
    split
    · simp only [List.length_cons]; omega
    · simp only [List.length_cons]; omega
theorem bitAt_lt (x : ByteArray) : bitAt x < 32 := by
  have := idxFromS_lt x rnamesB 0
  rw [rnamesB_len] at this
  exact this
set_option maxRecDepth 100000 in
set_option maxHeartbeats 400000 in
theorem bit_any (x : ByteArray) (w : World) (hG : Gl w) : Calls Tryd.prog 45 #[.string x] w fun e w' => e = .returned (.tuple #[.int .u32 (bitV x), .bool (bitB x)]) ∧ Below w.heap.size w w' := by
  have H := Lib.hid hG; clear hG
  go_enter Tryd.func45, Tryd.ntmps45
  go_wp2_with fail
  refine (all_any _ H.out).mono ?_
  rintro e w1 ⟨b, rfl, hb, hb', hcs, hbel⟩
  have HC := Lib.hid hcs; clear hcs
  go_wp2_with fail
  refine (Tryd.slices_Index_string b 0 32 32 rnamesB x _ (by rw [rnamesB_len]; omega) (by omega) (fun j hj => by rw [Nat.zero_add, rnamesB_at]; exact HC.out j (by rw [rnamesB_len] at hj; exact hj))).mono ?_
  rintro e w' ⟨rfl, rfl⟩
  rw [show List.take 32 rnamesB = rnamesB from List.take_of_length_le (by rw [rnamesB_len]; omega)]
  have hlt : bitAt x < 32 := bitAt_lt x
  have e0 : Lib.idxOfS rnamesB x = bitAt x := rfl
  rw [e0]
  clear e0
  by_cases hneg : bitAt x < 0
  · have hv : bitV x = 0 := by unfold bitV; rw [if_pos hneg]
    have hw : bitB x = false := by unfold bitB; simp [hneg]
    have Hv := Lib.hid hv; clear hv
    have Hw := Lib.hid hw; clear hw
    go_wp2_with fail
    go_ret2
    exact ⟨by rw [Hv.out, Hw.out]; rfl, hbel⟩
  · have hv : bitV x = 2 ^ (bitAt x).toNat % 4294967296 := by unfold bitV; rw [if_neg hneg]
    have hw : bitB x = true := by unfold bitB; simp [hneg]
    have Hv := Lib.hid hv; clear hv
    have Hw := Lib.hid hw; clear hw
    have h0 : 0 ≤ bitAt x := by omega
    go_wp2_with fail
    go_ret2
    refine ⟨?_, hbel⟩
    rw [Hv.out, Hw.out]
    rfl
set_option maxHeartbeats 400000 in
theorem Bit_any (x : ByteArray) (w : World) (hG : Gl w) : Calls Tryd.prog 35 #[.string x] w fun e w' => e = .returned (.tuple #[.int .u32 (bitV x), .bool (bitB x)]) ∧ Below w.heap.size w w' := by
  have H := Lib.hid hG; clear hG
  go_enter Tryd.func35, Tryd.ntmps35
  go_wp2_with fail
  refine (bit_any _ _ H.out).mono ?_
  rintro e w1 ⟨rfl, hbel⟩
  go_wp2_with fail
  go_ret2
  exact ⟨rfl, hbel⟩
end Go.Proofs.YtmjlfknkembhnaaDoor
