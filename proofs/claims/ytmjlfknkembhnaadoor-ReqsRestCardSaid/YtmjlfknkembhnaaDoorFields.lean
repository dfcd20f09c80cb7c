/- calls.fields and rights.all: the words of a call's line, the names of the rights. Conditions: the library's table of white space as its initialiser lays it. -/
import Derived.Test.YtmjlfknkembhnaaDoorTabs
import Derived.Test.YtmjlfknkembhnaaDoorShelf
import Derived.WalkKit
import Derived.WalkSpells
import Derived.WalkLawsBesides
import Derived.Lib.Hide
import Derived.Outline
namespace Go.Proofs.YtmjlfknkembhnaaDoor
open Go.RowKit
/-- What of the package-level variables the walks read. -/
def Gl (w : World) : Prop := (∃ m, w.cell? ⟨2, 0, none⟩ = some (.int .i64 m)) ∧ Lib.TabIs Tryd.prog w "strings.asciiSpace" .u8 Lib.asciiSpaceTab ∧ 5 ≤ w.heap.size
theorem gAscii : Tryd.prog.globalNamed "strings.asciiSpace" = some 0 := by kernel_rfl
theorem Gl.below {w w' : World} {B : Nat} (h : Gl w) (hb : Below B w w') (hB : 5 ≤ B) : Gl w' := by
  obtain ⟨⟨m, h1⟩, h2, h3⟩ := h
  have hs := hb.size
  exact ⟨⟨m, by rw [hb.cell (p := ⟨2, 0, none⟩) (by show 2 < B; omega)]; exact h1⟩, var?_below hb gAscii (by omega) h2, by omega⟩
theorem Gl.later {w w' : World} (h : Gl w) (hb : Below w.heap.size w w') : Gl w' := h.below hb h.2.2
/-- The cells of the array of the lines. -/
def linesC : Array Value := (linesL.map fun l => Value.string ⟨l.toArray⟩).toArray
/-- A line. -/
def lineB (n : Nat) : ByteArray := ⟨(linesL.getD (n - 1) []).toArray⟩
theorem linesC_at (n : Nat) (h1 : 1 ≤ n) (h2 : n ≤ 64) : linesC[n - 1]? = some (.string (lineB n)) := by
  have hl := linesL_len
  have h : n - 1 < linesL.length := by omega
  unfold linesC lineB
  rw [List.getElem?_toArray, List.getElem?_map, List.getElem?_eq_getElem h, List.getD_eq_getElem?_getD, List.getElem?_eq_getElem h]
  rfl
theorem split_tbl (w : World) (h : Gl w) :
    Calls Tryd.prog 42 #[.string tbl, .string nl] w fun e w' =>
      e = .returned (.slice (some ⟨w.heap.size, 0, none⟩) 64 64) ∧ w' = w.alloc (.cells linesC 9) := by
  obtain ⟨⟨m, h1⟩, h2, h3⟩ := h
  refine (Tryd.strings_Split tbl nl m w tbl_size h1 (by decide)).mono ?_
  rintro e w' ⟨rfl, rfl⟩
  rw [tbl_count, lines_eq]
  exact ⟨rfl, by rw [List.map_map]; rfl⟩
/-- The words of a line, in new memory. -/
def WordsAt (n : Nat) (w : World) (e : Ending) (w' : World) : Prop :=
  ∃ b, e = .returned (.slice (some ⟨b, 0, none⟩) (words n).length (words n).length) ∧ w.heap.size ≤ b ∧ b < w'.heap.size ∧
    (∀ j, j < (words n).length → w'.cell? ⟨b, j, none⟩ = some (.string ⟨((words n).getD j []).toArray⟩)) ∧ Below w.heap.size w w'
theorem line_ok (n : Nat) (h1 : 1 ≤ n) (h2 : n ≤ 64) : (lineB n).size < 256 ∧ ∀ (j : Nat) b, (lineB n).data.toList[j]? = some b → b.toNat < 128 := by
  have hl := linesL_len
  have h : n - 1 < linesL.length := by omega
  have := List.all_eq_true.1 lines_ascii (linesL.getD (n - 1) []) (by rw [List.getD_eq_getElem?_getD, List.getElem?_eq_getElem h]; exact List.getElem_mem h)
  simp only [Bool.and_eq_true, decide_eq_true_eq, List.all_eq_true] at this
  exact ⟨this.1, fun j b hb => this.2 b (List.mem_of_getElem? hb)⟩
theorem fields_line (n : Nat) (w : World) (h : Gl w) (h1 : 1 ≤ n) (h2 : n ≤ 64) : Calls Tryd.prog 41 #[.string (lineB n)] w (WordsAt n w) := by
  have ho := line_ok n h1 h2
  refine (Tryd.strings_Fields_laid (lineB n) w (by omega) ho.2 h.2.1).mono ?_
  rintro e w' ⟨rfl, rfl⟩
  refine ⟨w.heap.size, rfl, Nat.le_refl _, by simp, fun j hj => ?_, (Below.refl _ _).alloc (Nat.le_refl _) _⟩
  rw [World.cell?_alloc_new, List.getElem?_toArray, List.getElem?_map, List.getD_eq_getElem?_getD]
  rw [show Lib.fields (lineB n).data.toList = words n from rfl, List.getElem?_eq_getElem hj]
  rfl
set_option maxRecDepth 100000 in
set_option maxHeartbeats 400000 in
theorem fields_in (n : Nat) (w : World) (hG : Gl w) (h1 : 1 ≤ n) (h2 : n ≤ 64) : Calls Tryd.prog 32 #[.int .i64 n] w (WordsAt n w) := by
  have hc := linesC_at n h1 h2
  have H := Lib.hid hG; clear hG
  go_enter Tryd.func32, Tryd.ntmps32
  go_wp2_with fail
  refine (split_tbl _ H.out).mono ?_
  rintro e w' ⟨rfl, rfl⟩
  go_wp2_with fail
  have hb1 : Below w.heap.size w (w.alloc (.cells linesC 9)) := (Below.refl _ _).alloc (Nat.le_refl _) _
  refine (fields_line n _ (H.out.later hb1) h1 h2).mono ?_
  rintro e w' ⟨b, rfl, hb, hb', hcs, hbel⟩
  have HC := Lib.hid hcs; clear hcs
  go_wp2_with fail
  go_ret
  exact ⟨b, rfl, by have := hb1.size; omega, hb', HC.out, hb1.trans (hbel.mono hb1.size)⟩
theorem nm_ascii : ∀ (j : Nat) b, nms.data.toList[j]? = some b → b.toNat < 128 := fun j b hb => by
  have := List.all_eq_true.1 nms_ascii b (List.mem_of_getElem? hb)
  simpa using this
/-- The rights' names, in new memory. -/
def NamesAt (w : World) (e : Ending) (w' : World) : Prop :=
  ∃ b, e = .returned (.slice (some ⟨b, 0, none⟩) 32 32) ∧ w.heap.size ≤ b ∧ b < w'.heap.size ∧
    (∀ j, j < 32 → w'.cell? ⟨b, j, none⟩ = some (.string ⟨(rnames.getD j []).toArray⟩)) ∧ Below w.heap.size w w'
theorem fields_nms (w : World) (h : Gl w) : Calls Tryd.prog 41 #[.string nms] w (NamesAt w) := by
  refine (Tryd.strings_Fields_laid nms w nms_size nm_ascii h.2.1).mono ?_
  rintro e w' ⟨rfl, rfl⟩
  refine ⟨w.heap.size, by rw [show Lib.fields nms.data.toList = rnames from rfl, rnames_len], Nat.le_refl _, by simp, fun j hj => ?_, (Below.refl _ _).alloc (Nat.le_refl _) _⟩
  have hj' : j < rnames.length := by rw [rnames_len]; exact hj
  rw [World.cell?_alloc_new, List.getElem?_toArray, List.getElem?_map, List.getD_eq_getElem?_getD]
  rw [show Lib.fields nms.data.toList = rnames from rfl, List.getElem?_eq_getElem hj']
  rfl
set_option maxRecDepth 100000 in
set_option maxHeartbeats 400000 in
theorem all_any (w : World) (hG : Gl w) : Calls Tryd.prog 59 #[] w (NamesAt w) := by
  have H := Lib.hid hG; clear hG
  go_enter Tryd.func59, Tryd.ntmps59
  go_wp2_with fail
  refine (fields_nms _ H.out).mono ?_
  rintro e w' ⟨b, rfl, hb, hb', hcs, hbel⟩
  have HC := Lib.hid hcs; clear hcs
  go_wp2_with fail
  go_ret
  exact ⟨b, rfl, hb, hb', HC.out, hbel⟩
set_option maxRecDepth 100000 in
set_option maxHeartbeats 400000 in
theorem fields_out (n : Int) (w : World) (h : n < 1 ∨ 64 < n) : Calls Tryd.prog 32 #[.int .i64 n] w fun e w' => e = .returned (.slice none 0 0) ∧ w = w' := by
  by_cases h1 : n < 1
  · go_enter Tryd.func32, Tryd.ntmps32
    go_wp2_with fail
    go_ret
    exact ⟨rfl, rfl⟩
  · have h2 : 64 < n := by omega
    go_enter Tryd.func32, Tryd.ntmps32
    go_wp2_with fail
    go_ret
    exact ⟨rfl, rfl⟩
end Go.Proofs.YtmjlfknkembhnaaDoor
