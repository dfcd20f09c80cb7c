/- The program's Plain: what a request is, its list in memory of its own; of what no call takes: its number alone. Conditions: none. -/
import Derived.Test.YtmjlfknkembhnaaDoorReq
namespace Go.Proofs.YtmjlfknkembhnaaDoor
open Go Go.ChangeShapes Go.WideShapes Go.ChangeAt Go.RowKit
theorem ints_some {w : World} {A : Option Addr} {zs : List Int} (h : Ints w A zs) (hz : 0 < zs.length) : ∃ b off, A = some ⟨b, off, none⟩ ∧ ∀ j, j < zs.length → w.cell? ⟨b, off + j, none⟩ = some (.int .i64 (zs.getD j 0)) := by
  obtain ⟨b, off, rfl, hlt, hc⟩ := h 0 hz
  refine ⟨b, off, rfl, fun j hj => ?_⟩
  obtain ⟨b', off', e, _, hc'⟩ := h j hj
  cases e
  exact hc'
theorem clone_m (A : Option Addr) (zs : List Int) (m c : Nat) (hm : Hid (zs.length = m)) (hl : m ≤ 100) (w : World) (hI : Ints w A zs) :
    Calls Tryd.prog 23 #[.slice A m c] w fun e w' => ∃ (A' : Option Addr) (c' : Nat), e = .returned (.slice A' m c') ∧ Hid (Ints w' A' zs) ∧ Below w.heap.size w w' ∧ ∀ b, A'.map Addr.block = some b → w.heap.size ≤ b := by
  have hm' := hm.out
  cases A with
  | none =>
    have hz : zs = [] := by
      cases zs with
      | nil => rfl
      | cons z zs => obtain ⟨b, off, he, _⟩ := hI 0 (by simp); cases he
    subst hz
    obtain rfl : m = 0 := by simpa using hm'.symm
    refine (Tryd.slices_Clone_int_nil 0 c w).mono ?_
    rintro e w' ⟨rfl, rfl⟩
    exact ⟨none, 0, rfl, Lib.hid (fun j hj => by simp at hj), Below.refl _ _, fun b hb => by simp at hb⟩
  | some a =>
    by_cases h0 : 0 < zs.length
    · obtain ⟨b, off, e, hc⟩ := ints_some hI h0
      cases e
      refine (Tryd.slices_Clone_int b off m c zs w (by omega) (by omega) hc).mono ?_
      rintro e w' ⟨v', rfl, hrow, -, hb⟩
      rw [List.take_of_length_le (by omega), ← hm'] at hrow
      obtain ⟨A', c', rfl, h1, h2⟩ := ints_of_row hrow
      exact ⟨A', c', by rw [hm'], Lib.hid h1, hb, h2⟩
    · have hz : zs = [] := List.eq_nil_of_length_eq_zero (by omega)
      subst hz
      obtain rfl : m = 0 := by simpa using hm'.symm
      refine (Tryd.slices_Clone_int_zero a c w).mono ?_
      rintro e w' ⟨v', rfl, hrow, -, hb⟩
      obtain ⟨A', c', rfl, h1, h2⟩ := ints_of_row (zs := []) hrow
      exact ⟨A', c', rfl, Lib.hid h1, hb, h2⟩
theorem check_R {no a0 a1 a2 a3 a4 : Int} {s t : ByteArray} {zs : List Int} {m : Nat} {R : Int} (hR : Hid (checkP no [a0, a1, a2, a3, a4] s.size t.size zs = R)) (hs : s.size ≤ 9223372036854775807) (ht : t.size ≤ 9223372036854775807) (hm : Hid (zs.length = m)) (hl : m ≤ 100) (A : Option Addr) (c : Nat) (w : World) (hG : Gl w) (hI : Ints w A zs) :
    Calls Tryd.prog 20 #[.agg #[.int .i64 no, .int .i64 a0, .int .i64 a1, .int .i64 a2, .int .i64 a3, .int .i64 a4, .string s, .string t, .slice A m c]] w fun e w' => e = .returned (.int .i64 R) ∧ Below w.heap.size w w' := by
  have e := hm.out
  subst e
  have h := check_any no a0 a1 a2 a3 a4 s t hs ht A zs c (by omega) w hG hI
  rw [hR.out] at h; exact h
theorem plain_tail {no a0 a1 a2 a3 a4 : Int} {s t : ByteArray} {w W : World} {A' : Option Addr} {m c' : Nat} {zs : List Int} {a : Act}
    (hrx : ∀ j, W.cell? ⟨w.heap.size + 1, j, none⟩ = (#[Value.int .i64 0, .int .i64 0, .int .i64 0, .int .i64 0, .int .i64 0, .int .i64 0, .string ⟨#[]⟩, .string ⟨#[]⟩, .slice none 0 0] : Array Value)[j]?)
    (hB1 : Below w.heap.size w W) (hA' : ∀ b, A'.map Addr.block = some b → w.heap.size + 1 < b) (hI : Ints W A' zs)
    (hp : a.tmps.getD 2 undef = .pointer (some ⟨w.heap.size + 1, 0, none⟩)) (hd : a.defers = []) :
    bodyPost Tryd.prog Tryd.f16 (OwnM no a0 a1 a2 a3 a4 s t zs m w) Exit.ret a
      (set9 W (w.heap.size + 1) (.int .i64 no) (.int .i64 a0) (.int .i64 a1) (.int .i64 a2) (.int .i64 a3) (.int .i64 a4) (.string s) (.string t) (.slice A' m c')) := by
  obtain ⟨q0, q1, q2, q3, q4, q5, q6, q7, q8⟩ := set9_cells (.int .i64 no) (.int .i64 a0) (.int .i64 a1) (.int .i64 a2) (.int .i64 a3) (.int .i64 a4) (.string s) (.string t) (.slice A' m c') (hrx 0) (hrx 1) (hrx 2) (hrx 3) (hrx 4) (hrx 5) (hrx 6) (hrx 7) (hrx 8)
  refine bodyPost_ret (results_req16 hp q0 q1 q2 q3 q4 q5 q6 q7 q8) hd ⟨A', c', rfl, Lib.hid ?_, ?_, fun b hb => by have := hA' b hb; omega⟩
  · have far1 : ∀ b, A'.map Addr.block = some b → w.heap.size + 1 ≠ b := fun b hb => by have := hA' b hb; omega
    exact ints_set9 hI far1 _ _ _ _ _ _ _ _ _
  · exact below_set9 hB1 (by omega) _ _ _ _ _ _ _ _ _
theorem two_boxes {w w1 : World} {vs us : Array Value} (hB : Below ((w.alloc (.cells vs 25)).alloc (.cells us 25)).heap.size ((w.alloc (.cells vs 25)).alloc (.cells us 25)) w1) :
    (∀ j, w1.cell? ⟨w.heap.size, j, none⟩ = vs[j]?) ∧ (∀ j, w1.cell? ⟨w.heap.size + 1, j, none⟩ = us[j]?) ∧ (∀ j, w1.frozen? ⟨w.heap.size, j, none⟩ = false) ∧ (∀ j, w1.frozen? ⟨w.heap.size + 1, j, none⟩ = false) ∧ Below w.heap.size w w1 ∧ w.heap.size + 1 < w1.heap.size := by
  refine ⟨fun j => ?_, fun j => ?_, fun j => ?_, fun j => ?_, (((Below.refl _ w).alloc (Nat.le_refl _) _).alloc (by simp) _).trans (hB.mono (by simp <;> omega)), by have := hB.size; simp at this; omega⟩
  · rw [hB.cell (p := ⟨w.heap.size, j, none⟩) (by simp <;> omega)]; simp [go_sem]
  · rw [hB.cell (p := ⟨w.heap.size + 1, j, none⟩) (by simp)]; simp [go_sem]
  · rw [hB.frozen (p := ⟨w.heap.size, j, none⟩) (by simp <;> omega)]; simp [go_sem]
  · rw [hB.frozen (p := ⟨w.heap.size + 1, j, none⟩) (by simp)]; simp [go_sem]
/-- What Plain gives of a request with the answer R. -/
def PlainM (no a0 a1 a2 a3 a4 : Int) (s t : ByteArray) (zs : List Int) (m : Nat) (R : Int) (w : World) (e : Ending) (w' : World) : Prop :=
  (R = 0 ∧ OwnM no a0 a1 a2 a3 a4 s t zs m w e w') ∨ (R ≠ 0 ∧ OwnM no 0 0 0 0 0 ⟨#[]⟩ ⟨#[]⟩ [] 0 w e w')
set_option maxRecDepth 100000 in
set_option maxHeartbeats 4000000 in
theorem plain_m {no a0 a1 a2 a3 a4 : Int} {s t : ByteArray} {zs : List Int} {m : Nat} {R : Int} (hR : Hid (checkP no [a0, a1, a2, a3, a4] s.size t.size zs = R)) (hs : s.size ≤ 9223372036854775807) (ht : t.size ≤ 9223372036854775807) (hm : Hid (zs.length = m)) (hl : m ≤ 100) (A : Option Addr) (c : Nat) (w : World) (hG : Gl w) (hI : Ints w A zs) :
    Calls Tryd.prog 16 #[.agg #[.int .i64 no, .int .i64 a0, .int .i64 a1, .int .i64 a2, .int .i64 a3, .int .i64 a4, .string s, .string t, .slice A m c]] w (PlainM no a0 a1 a2 a3 a4 s t zs m R w) := by
  have HG := Lib.hid hG; clear hG
  have HI := Lib.hid hI; clear hI
  have HS := Lib.hid hs; clear hs
  have HT := Lib.hid ht; clear ht
  have HL := Lib.hid hl; clear hl
  by_cases h0 : R = 0
  · subst h0
    refine Calls.mono (R := OwnM no a0 a1 a2 a3 a4 s t zs m w) ?_ (fun e w' h => .inl ⟨rfl, h⟩)
    go_enter Tryd.func16, Tryd.ntmps16
    go_wp2_with fail
    refine (check_R hR HS.out HT.out hm HL.out A c _ (HG.out.below (((Below.refl _ w).alloc (Nat.le_refl _) _).alloc (by simp) _) HG.out.2.2) (HI.out.below (((Below.refl _ w).alloc (Nat.le_refl _) _).alloc (by simp) _))).mono ?_
    rintro e w1 ⟨rfl, hB⟩
    obtain ⟨hbx, hrx, hfx, hgx, hB1, hsz⟩ := two_boxes hB
    have HI1 := Lib.hid (HI.out.below hB1)
    clear hB
    go_wp2_with fail
    refine (clone_m A zs m c hm HL.out w1 HI1.out).mono ?_
    rintro e w2 ⟨A', c', rfl, hI2, hB2, hA2⟩
    have hbx2 : ∀ j, w2.cell? ⟨w.heap.size, j, none⟩ = (#[Value.int .i64 no, .int .i64 a0, .int .i64 a1, .int .i64 a2, .int .i64 a3, .int .i64 a4, .string s, .string t, .slice A m c] : Array Value)[j]? := fun j => by
      rw [hB2.cell (p := ⟨w.heap.size, j, none⟩) (show w.heap.size < _ by omega)]; exact hbx j
    have hrx2 : ∀ j, w2.cell? ⟨w.heap.size + 1, j, none⟩ = (#[Value.int .i64 0, .int .i64 0, .int .i64 0, .int .i64 0, .int .i64 0, .int .i64 0, .string ⟨#[]⟩, .string ⟨#[]⟩, .slice none 0 0] : Array Value)[j]? := fun j => by
      rw [hB2.cell (p := ⟨w.heap.size + 1, j, none⟩) hsz]; exact hrx j
    have hfx2 : ∀ j, w2.frozen? ⟨w.heap.size, j, none⟩ = false := fun j => by
      rw [hB2.frozen (p := ⟨w.heap.size, j, none⟩) (show w.heap.size < _ by omega)]; exact hfx j
    have hgx2 : ∀ j, w2.frozen? ⟨w.heap.size + 1, j, none⟩ = false := fun j => by
      rw [hB2.frozen (p := ⟨w.heap.size + 1, j, none⟩) hsz]; exact hgx j
    have hBB : Below w.heap.size w w2 := hB1.trans (hB2.mono (by omega))
    have hA3 : Hid (∀ b, A'.map Addr.block = some b → w.heap.size + 1 < b) := Lib.hid (fun b hb => by have := hA2 b hb; omega)
    clear hbx hrx hfx hgx hB1 hsz HI1 hB2 hA2
    go_wp2
    refine plain_tail (W := w2.setCell ⟨w.heap.size, 8, none⟩ (.slice A' m c')) (fun j => ?_) (hBB.setCell (p := ⟨w.heap.size, 8, none⟩) (Nat.le_refl _) _) hA3.out (ints_setCell hI2.out _ _ (fun b hb => ?_)) rfl rfl
    · rw [World.cell?_setCell_far _ _ _ _ (by simp)]; exact hrx2 j
    · have := hA3.out b hb; simp; omega
  · refine Calls.mono (R := OwnM no 0 0 0 0 0 ⟨#[]⟩ ⟨#[]⟩ [] 0 w) ?_ (fun e w' h => .inr ⟨h0, h⟩)
    go_enter Tryd.func16, Tryd.ntmps16
    go_wp2_with fail
    refine (check_R hR HS.out HT.out hm HL.out A c _ (HG.out.below (((Below.refl _ w).alloc (Nat.le_refl _) _).alloc (by simp) _) HG.out.2.2) (HI.out.below (((Below.refl _ w).alloc (Nat.le_refl _) _).alloc (by simp) _))).mono ?_
    rintro e w1 ⟨rfl, hB⟩
    obtain ⟨hbx, hrx, hfx, hgx, hB1, hsz⟩ := two_boxes hB
    clear hB
    go_wp2
    exact plain_tail hrx hB1 (A' := none) (fun b hb => by simp at hb) (ints_nil _ _) rfl rfl
end Go.Proofs.YtmjlfknkembhnaaDoor
