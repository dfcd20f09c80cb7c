/- A number that stands for nothing, or may not stand for its letter, is refused: plain facts. Conditions: those named. -/
import Derived.Test.YtmjlfknkembhnaaDoorGate
namespace Go.Proofs.YtmjlfknkembhnaaDoor
open Go Go.RowKit
/-- The small letters of a shape. -/
def small (l : List UInt8) : List UInt8 := l.filter fun c => decide (97 ≤ c.toNat)
theorem nums_at : ∀ (l : List UInt8) (A : List Int), (∀ c ∈ l, c.toNat ≤ 122) → nums l A = true → ∀ i, i < A.length → (i < (small l).length → takesP ((small l).getD i 0).toNat (A.getD i 0) = true) ∧ ((small l).length ≤ i → A.getD i 0 = 0)
  | [], A, _, h, i, hi => by
    rw [nums_nil] at h
    refine ⟨fun hs => by simp [small] at hs, fun _ => ?_⟩
    have h2 : A.any (· != 0) = false := by simpa using h
    have := List.any_eq_false.1 h2 (A.getD i 0) (by rw [List.getD_eq_getElem?_getD, List.getElem?_eq_getElem hi]; exact List.getElem_mem hi)
    simpa using this
  | c :: l, A, hl, h, i, hi => by
    have hl' : ∀ c ∈ l, c.toNat ≤ 122 := fun c hc => hl c (List.mem_cons_of_mem _ hc)
    have hc := hl c (List.mem_cons_self ..)
    by_cases hs : 97 ≤ c.toNat
    · have hsm : small (c :: l) = c :: small l := by unfold small; rw [List.filter_cons_of_pos (by simpa using hs)]
      rw [hsm]
      cases A with
      | nil => simp at hi
      | cons a A =>
        have h' := h
        rw [nums.eq_def] at h'
        simp only [hs, hc, and_self, if_true] at h'
        split at h'
        case isTrue ht =>
          cases i with
          | zero => exact ⟨fun _ => by simpa using ht, fun e => by simp at e⟩
          | succ i =>
            have := nums_at l A hl' h' i (by simpa using hi)
            exact ⟨fun e => by simpa using this.1 (by simpa using e), fun e => by simpa using this.2 (by simpa using e)⟩
        case isFalse => cases h'
    · have hsm : small (c :: l) = small l := by unfold small; rw [List.filter_cons_of_neg (by simpa using hs)]
      rw [hsm]
      rw [nums_big (by omega)] at h
      exact nums_at l A hl' h i hi
theorem shape_letters : (List.range 64).all (fun m => (shapeOf (m + 1)).data.toList.all fun c => decide (c.toNat ≤ 122)) = true := by decide +kernel
theorem refused {no : Nat} (h1 : 1 ≤ no) (h2 : no ≤ 64) {A : List Int} {S T : Nat} {zs : List Int} {i : Nat} (hi : i < A.length)
    (h : ((small (shapeOf no).data.toList).length ≤ i ∧ A.getD i 0 ≠ 0) ∨ (i < (small (shapeOf no).data.toList).length ∧ takesP ((small (shapeOf no).data.toList).getD i 0).toNat (A.getD i 0) = false)) : checkP no A S T zs = 22 := by
  have t := List.all_eq_true.1 shape_letters (no - 1) (List.mem_range.2 (by omega))
  rw [show no - 1 + 1 = no by omega] at t
  have hl : ∀ c ∈ (shapeOf no).data.toList, c.toNat ≤ 122 := fun c hc => by simpa using List.all_eq_true.1 t c hc
  have hn : nums (shapeOf no).data.toList A = false := by
    cases hx : nums (shapeOf no).data.toList A with
    | false => rfl
    | true =>
      have := nums_at _ A hl hx i hi
      rcases h with ⟨a, b⟩ | ⟨a, b⟩
      · exact absurd (this.2 a) b
      · rw [this.1 a] at b; cases b
  unfold checkP fitsP
  rw [if_neg (by omega), show ((no : Int)).toNat = no by omega, hn]
  simp
theorem out_table {no : Int} (h : no < 1 ∨ 64 < no) (A : List Int) (S T : Nat) (zs : List Int) : checkP no A S T zs = 78 := by
  unfold checkP; rw [if_pos h]
/-- The small letters among the first k. -/
theorem small_succ (l : List UInt8) (k : Nat) (hk : k < l.length) : small (l.take (k + 1)) = small (l.take k) ++ (if 97 ≤ l[k].toNat then [l[k]] else []) := by
  unfold small
  rw [List.take_succ_eq_append_getElem hk, List.filter_append]
  congr 1
  by_cases h : 97 ≤ l[k].toNat <;> simp [h]
end Go.Proofs.YtmjlfknkembhnaaDoor
