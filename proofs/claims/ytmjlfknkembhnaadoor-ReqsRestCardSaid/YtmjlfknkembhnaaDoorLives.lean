/- reqs.Check, and that a request is looked at. Conditions: the library's table of white space as its initialiser lays it. -/
import Derived.Test.YtmjlfknkembhnaaDoorCheck
namespace Go.Proofs.YtmjlfknkembhnaaDoor
open Go Go.RowKit
set_option maxRecDepth 100000 in
set_option maxHeartbeats 1000000 in
theorem Check_any (no a0 a1 a2 a3 a4 : Int) (s t : ByteArray) (hs : s.size ≤ 9223372036854775807) (ht : t.size ≤ 9223372036854775807) (A : Option Addr) (zs : List Int) (m c : Nat) (hm : zs.length = m) (hl : m ≤ 1000) (w : World) (hG : Gl w) (hI : Ints w A zs) :
    Calls Tryd.prog 9 #[.agg #[.int .i64 no, .int .i64 a0, .int .i64 a1, .int .i64 a2, .int .i64 a3, .int .i64 a4, .string s, .string t, .slice A m c]] w fun e w' =>
      e = .returned (.int .i64 (checkP no [a0, a1, a2, a3, a4] s.size t.size zs)) ∧ Below w.heap.size w w' := by
  subst hm
  have HG := Lib.hid hG; clear hG
  have HI := Lib.hid hI; clear hI
  generalize hR : checkP no [a0, a1, a2, a3, a4] s.size t.size zs = R
  have HR := Lib.hid hR; clear hR
  go_enter Tryd.func9, Tryd.ntmps9
  go_wp2_with fail
  have hb : Below w.heap.size w (w.alloc (.cells #[Value.int .i64 no, .int .i64 a0, .int .i64 a1, .int .i64 a2, .int .i64 a3, .int .i64 a4, .string s, .string t, .slice A zs.length c] 25)) := (Below.refl _ _).alloc (Nat.le_refl _) _
  generalize w.alloc (.cells #[Value.int .i64 no, .int .i64 a0, .int .i64 a1, .int .i64 a2, .int .i64 a3, .int .i64 a4, .string s, .string t, .slice A zs.length c] 25) = W at *
  refine (check_any no a0 a1 a2 a3 a4 s t hs ht A zs c hl W (HG.out.later hb) (HI.out.below hb)).mono ?_
  rintro e w' ⟨rfl, hb2⟩
  rw [HR.out]
  go_wp2_with fail
  go_ret
  exact ⟨rfl, hb.trans (hb2.mono hb.size)⟩
theorem ints_nil (w : World) (A : Option Addr) : Ints w A [] := fun _ h => absurd h (Nat.not_lt_zero _)
theorem live1 : checkP 3 [0, 5, 0, 0, 0] ByteArray.empty.size ByteArray.empty.size [] = 0 := by decide +kernel
theorem live2 : checkP 3 [0, 300, 0, 0, 0] ByteArray.empty.size ByteArray.empty.size [] = 22 := by decide +kernel
theorem live3 : checkP 65 [0, 0, 0, 0, 0] ByteArray.empty.size ByteArray.empty.size [] = 78 := by decide +kernel
theorem live4 : takesP 102 (-1) = true := by decide +kernel
set_option maxRecDepth 100000 in
set_option maxHeartbeats 2000000 in
theorem lives_any (w : World) (hG : Gl w) : Calls Tryd.prog 12 #[] w fun e w' => e = .returned (.bool true) ∧ Below w.heap.size w w' := by
  have HG := Lib.hid hG; clear hG
  go_enter Tryd.func12, Tryd.ntmps12
  go_wp2_with fail
  refine (Check_any 3 0 5 0 0 0 ByteArray.empty ByteArray.empty (by decide) (by decide) none [] 0 0 rfl (by decide) w HG.out (ints_nil _ _)).mono ?_
  rintro e w1 ⟨rfl, hb1⟩
  rw [live1]
  go_wp2_with fail
  refine (Check_any 3 0 300 0 0 0 ByteArray.empty ByteArray.empty (by decide) (by decide) none [] 0 0 rfl (by decide) w1 (HG.out.later hb1) (ints_nil _ _)).mono ?_
  rintro e w2 ⟨rfl, hb2⟩
  rw [live2]
  have hb2' := hb1.trans (hb2.mono hb1.size)
  go_wp2_with fail
  refine (Check_any 65 0 0 0 0 0 ByteArray.empty ByteArray.empty (by decide) (by decide) none [] 0 0 rfl (by decide) w2 (HG.out.later hb2') (ints_nil _ _)).mono ?_
  rintro e w3 ⟨rfl, hb3⟩
  rw [live3]
  have hb3' := hb2'.trans (hb3.mono hb2'.size)
  go_wp2_with fail
  refine (Takes_any 102 (-1) w3).mono ?_
  rintro e w4 ⟨rfl, rfl⟩
  rw [live4]
  go_wp2_with fail
  go_ret
  exact ⟨rfl, hb3'⟩
end Go.Proofs.YtmjlfknkembhnaaDoor
