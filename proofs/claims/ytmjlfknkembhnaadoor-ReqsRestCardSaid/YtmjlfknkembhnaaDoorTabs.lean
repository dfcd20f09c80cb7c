/- The two constant texts of the program's tables as the translation holds them; plain facts on their lines and words. Conditions: none. -/
import Derived.Lib.Strings
import Derived.Lib.Fields
import Derived.Lib.SplitLaws
import Derived.Lib.IndexBytes
import Derived.KernelRfl
namespace Go.Proofs.YtmjlfknkembhnaaDoor
/-- A list of bytes cut at each place of one byte. -/
def spl (c : UInt8) : List UInt8 → List (List UInt8)
  | [] => [[]]
  | b :: l => if b == c then [] :: spl c l else match spl c l with
    | [] => [[b]]
    | h :: t => (b :: h) :: t
theorem spl_ne (c : UInt8) (l : List UInt8) : spl c l ≠ [] := by
  cases l with
  | nil => simp [spl]
  | cons b l =>
    unfold spl
    split
    · simp
    · split <;> simp
theorem spl_miss (c : UInt8) : ∀ l : List UInt8, Lib.indexByte l c = -1 → spl c l = [l]
  | [], _ => rfl
  | b :: l, h => by
    have hge := Lib.indexByte_ge l c
    unfold Lib.indexByte at h
    by_cases hb : (b == c) = true
    · rw [if_pos hb] at h; exact absurd h (by decide)
    · rw [if_neg hb] at h
      have hl : Lib.indexByte l c = -1 := by
        by_cases e : (Lib.indexByte l c == -1) = true
        · exact beq_iff_eq.1 e
        · rw [if_neg e] at h; omega
      unfold spl
      rw [if_neg hb, spl_miss c l hl]
theorem spl_hit (c : UInt8) : ∀ (l : List UInt8) (i : Nat), Lib.indexByte l c = i → spl c l = l.take i :: spl c (l.drop (i + 1))
  | [], i, h => by simp [Lib.indexByte] at h
  | b :: l, i, h => by
    have hge := Lib.indexByte_ge l c
    unfold Lib.indexByte at h
    by_cases hb : (b == c) = true
    · rw [if_pos hb] at h
      obtain rfl : i = 0 := by omega
      conv => lhs; unfold spl
      rw [if_pos hb]; simp
    · rw [if_neg hb] at h
      by_cases e : (Lib.indexByte l c == -1) = true
      · rw [if_pos e] at h; omega
      · rw [if_neg e] at h
        have e' : Lib.indexByte l c ≠ -1 := fun x => e (beq_iff_eq.2 x)
        obtain ⟨j, rfl⟩ : ∃ j, i = j + 1 := ⟨i - 1, by omega⟩
        have hj : Lib.indexByte l c = (j : Int) := by omega
        conv => lhs; unfold spl
        rw [if_neg hb, spl_hit c l j hj]
        simp
theorem splitK_eq (c : UInt8) : ∀ (k : Nat) (l : List UInt8), (spl c l).length ≤ k + 1 → Lib.splitK [c] 0 k l = spl c l
  | 0, l, h => by
    by_cases e : Lib.indexByte l c = -1
    · rw [spl_miss c l e]; rfl
    · have hge := Lib.indexByte_ge l c
      obtain ⟨i, hi⟩ : ∃ i : Nat, Lib.indexByte l c = i := ⟨(Lib.indexByte l c).toNat, by omega⟩
      rw [spl_hit c l i hi] at h
      have := List.length_pos_iff.2 (spl_ne c (l.drop (i + 1)))
      simp only [List.length_cons] at h; omega
  | k + 1, l, h => by
    unfold Lib.splitK
    rw [Lib.index_one]
    by_cases e : Lib.indexByte l c = -1
    · rw [if_pos (beq_iff_eq.2 e), spl_miss c l e]
    · have hge := Lib.indexByte_ge l c
      obtain ⟨i, hi⟩ : ∃ i : Nat, Lib.indexByte l c = i := ⟨(Lib.indexByte l c).toNat, by omega⟩
      have h' := h
      rw [spl_hit c l i hi] at h' ⊢
      simp only [List.length_cons] at h'
      rw [if_neg (fun e' => e (beq_iff_eq.1 e')), hi]
      simp only [Int.toNat_natCast, Nat.add_zero, List.length_cons, List.length_nil, Nat.zero_add]
      rw [splitK_eq c k _ (by omega)]
/-- The table of calls, a line each. -/
def tbl : ByteArray := { data := ((((([101, 120, 105, 116, 32, 48, 32, 101, 10, 102, 111, 114, 107, 32, 48, 32, 46, 10, 114, 101, 97, 100, 32, 48, 32, 102, 110, 32, 114, 101, 97, 100, 10, 119, 114].append [105, 116, 101, 32, 48, 32, 102, 66, 32, 119, 114, 105, 116, 101, 10, 111, 112, 101, 110, 32, 49, 32, 103, 83, 10, 99, 108, 111, 115, 101, 32, 48, 32, 102, 10]).append ([119, 97, 105, 116, 32, 49, 32, 120, 117, 10, 108, 105, 110, 107, 32, 49, 32, 83, 84, 10, 117, 110, 108, 105, 110, 107, 32, 49, 32, 83, 10, 99, 104, 100, 105].append [114, 32, 49, 32, 83, 10, 102, 99, 104, 100, 105, 114, 32, 49, 32, 102, 32, 99, 104, 100, 105, 114, 10, 109, 107, 100, 105, 114, 32, 49, 32, 83, 10, 114, 109, 100])).append (([105, 114, 32, 49, 32, 83, 10, 103, 101, 116, 112, 105, 100, 32, 48, 32, 46, 10, 103, 101, 116, 112, 112, 105, 100, 32, 48, 32, 46, 10, 107, 105, 108, 108, 32].append [49, 32, 120, 115, 10, 100, 117, 112, 32, 48, 32, 102, 10, 100, 117, 112, 50, 32, 48, 32, 102, 120, 10, 112, 105, 112, 101, 32, 48, 32, 107, 10, 102, 99, 110, 116]).append ([108, 32, 48, 32, 102, 120, 120, 10, 105, 111, 99, 116, 108, 32, 48, 32, 102, 120, 120, 32, 105, 111, 99, 116, 108, 10, 115, 121, 109, 108, 105, 110, 107, 32, 49].append [32, 89, 84, 10, 114, 101, 97, 100, 108, 105, 110, 107, 32, 49, 32, 83, 10, 114, 101, 110, 97, 109, 101, 32, 49, 32, 83, 84, 10, 108, 115, 101, 101, 107, 32, 48]))).append ((([32, 102, 105, 119, 10, 102, 116, 114, 117, 110, 99, 97, 116, 101, 32, 48, 32, 102, 111, 32, 116, 114, 117, 110, 99, 97, 116, 101, 10, 102, 115, 116, 97, 116, 32].append [48, 32, 102, 32, 115, 116, 97, 116, 10, 115, 116, 97, 116, 32, 49, 32, 117, 83, 10, 102, 115, 121, 110, 99, 32, 48, 32, 102, 32, 102, 115, 121, 110, 99, 10, 112]).append ([114, 101, 97, 100, 32, 48, 32, 102, 110, 111, 32, 114, 101, 97, 100, 44, 115, 101, 101, 107, 10, 112, 119, 114, 105, 116, 101, 32, 48, 32, 102, 111, 66, 32, 119].append [114, 105, 116, 101, 44, 115, 101, 101, 107, 10, 103, 101, 116, 100, 101, 110, 116, 115, 32, 48, 32, 102, 99, 32, 114, 101, 97, 100, 100, 105, 114, 10, 111, 112, 101, 110])).append (([97, 116, 32, 50, 32, 100, 103, 83, 10, 109, 107, 100, 105, 114, 97, 116, 32, 50, 32, 100, 83, 32, 108, 111, 111, 107, 117, 112, 44, 109, 107, 100, 105, 114, 10].append [117, 110, 108, 105, 110, 107, 97, 116, 32, 50, 32, 100, 117, 83, 32, 108, 111, 111, 107, 117, 112, 44, 117, 110, 108, 105, 110, 107, 10, 114, 101, 110, 97, 109, 101, 97]).append ([116, 32, 50, 32, 100, 100, 83, 84, 32, 108, 111, 111, 107, 117, 112, 44, 114, 101, 110, 97, 109, 101, 102, 114, 111, 109, 32, 108, 111, 111, 107, 117, 112, 44, 114].append [101, 110, 97, 109, 101, 116, 111, 10, 108, 105, 110, 107, 97, 116, 32, 50, 32, 100, 100, 117, 83, 84, 32, 108, 111, 111, 107, 117, 112, 44, 108, 105, 110, 107, 102, 114])))).append (((([111, 109, 32, 108, 111, 111, 107, 117, 112, 44, 108, 105, 110, 107, 116, 111, 10, 115, 121, 109, 108, 105, 110, 107, 97, 116, 32, 50, 32, 100, 89, 84, 32, 108, 111].append [111, 107, 117, 112, 44, 115, 121, 109, 108, 105, 110, 107, 10, 114, 101, 97, 100, 108, 105, 110, 107, 97, 116, 32, 50, 32, 100, 83, 32, 108, 111, 111, 107, 117, 112, 44]).append ([114, 101, 97, 100, 108, 105, 110, 107, 10, 102, 115, 116, 97, 116, 97, 116, 32, 50, 32, 100, 117, 83, 32, 108, 111, 111, 107, 117, 112, 44, 115, 116, 97, 116, 10].append [115, 111, 99, 107, 101, 116, 32, 48, 32, 107, 10, 115, 111, 99, 107, 101, 116, 112, 97, 105, 114, 32, 48, 32, 107, 10, 98, 105, 110, 100, 32, 49, 32, 102, 83, 32])).append (([98, 105, 110, 100, 10, 98, 105, 110, 100, 97, 116, 32, 50, 32, 100, 102, 83, 32, 108, 111, 111, 107, 117, 112, 44, 98, 105, 110, 100, 97, 116, 32, 98, 105, 110].append [100, 10, 108, 105, 115, 116, 101, 110, 32, 48, 32, 102, 98, 32, 108, 105, 115, 116, 101, 110, 10, 99, 111, 110, 110, 101, 99, 116, 32, 49, 32, 102, 83, 32, 99, 111]).append ([110, 110, 101, 99, 116, 10, 99, 111, 110, 110, 101, 99, 116, 97, 116, 32, 50, 32, 100, 102, 83, 32, 108, 111, 111, 107, 117, 112, 44, 99, 111, 110, 110, 101, 99].append [116, 97, 116, 32, 99, 111, 110, 110, 101, 99, 116, 10, 97, 99, 99, 101, 112, 116, 32, 48, 32, 102, 107, 32, 97, 99, 99, 101, 112, 116, 10, 115, 104, 117, 116, 100]))).append ((([111, 119, 110, 32, 48, 32, 102, 104, 32, 115, 104, 117, 116, 100, 111, 119, 110, 10, 115, 101, 110, 100, 32, 48, 32, 102, 66, 76, 32, 119, 114, 105, 116, 101, 10].append [114, 101, 99, 118, 32, 48, 32, 102, 110, 109, 32, 114, 101, 97, 100, 10, 112, 111, 108, 108, 32, 48, 32, 117, 80, 10, 112, 100, 102, 111, 114, 107, 32, 48, 32, 46]).append ([10, 112, 100, 103, 101, 116, 112, 105, 100, 32, 48, 32, 102, 32, 112, 100, 103, 101, 116, 112, 105, 100, 10, 112, 100, 107, 105, 108, 108, 32, 48, 32, 102, 115, 32].append [112, 100, 107, 105, 108, 108, 10, 112, 100, 119, 97, 105, 116, 32, 48, 32, 102, 117, 32, 112, 100, 119, 97, 105, 116, 10, 99, 97, 112, 95, 101, 110, 116, 101, 114, 32])).append (([48, 32, 46, 10, 99, 97, 112, 95, 103, 101, 116, 109, 111, 100, 101, 32, 48, 32, 46, 10, 99, 97, 112, 95, 114, 105, 103, 104, 116, 115, 95, 108, 105, 109, 105].append [116, 32, 48, 32, 102, 82, 10, 99, 97, 112, 95, 114, 105, 103, 104, 116, 115, 95, 103, 101, 116, 32, 48, 32, 102, 10, 99, 97, 112, 95, 105, 111, 99, 116, 108, 115]).append ([95, 108, 105, 109, 105, 116, 32, 48, 32, 102, 73, 10, 99, 97, 112, 95, 105, 111, 99, 116, 108, 115, 95, 103, 101, 116, 32, 48, 32, 102, 10, 99, 97, 112, 95].append [102, 99, 110, 116, 108, 115, 95, 108, 105, 109, 105, 116, 32, 48, 32, 102, 120, 10, 99, 97, 112, 95, 102, 99, 110, 116, 108, 115, 95, 103, 101, 116, 32, 48, 32, 102]))))).toArray }
/-- The names of the rights. -/
def nms : ByteArray := { data := (([114, 101, 97, 100, 32, 119, 114, 105, 116, 101, 32, 115, 101, 101, 107, 32, 116, 101, 108, 108, 32, 99, 114, 101, 97, 116, 101, 32, 102, 115, 121, 110, 99, 32, 116, 114, 117, 110, 99, 97, 116, 101, 32, 108, 111, 111, 107, 117, 112, 32, 99, 104, 100, 105, 114, 32, 102].append [99, 110, 116, 108, 32, 115, 116, 97, 116, 32, 114, 101, 97, 100, 100, 105, 114, 32, 108, 105, 110, 107, 102, 114, 111, 109, 32, 108, 105, 110, 107, 116, 111, 32, 109, 107, 100, 105, 114, 32, 114, 101, 110, 97, 109, 101, 102, 114, 111, 109, 32, 114, 101, 110, 97, 109, 101]).append ([116, 111, 32, 115, 121, 109, 108, 105, 110, 107, 32, 114, 101, 97, 100, 108, 105, 110, 107, 32, 117, 110, 108, 105, 110, 107, 32, 97, 99, 99, 101, 112, 116, 32, 98, 105, 110, 100, 32, 99, 111, 110, 110, 101, 99, 116, 32, 108, 105, 115, 116, 101, 110, 32, 115, 104, 117].append [116, 100, 111, 119, 110, 32, 98, 105, 110, 100, 97, 116, 32, 99, 111, 110, 110, 101, 99, 116, 97, 116, 32, 101, 118, 101, 110, 116, 32, 105, 111, 99, 116, 108, 32, 112, 100, 103, 101, 116, 112, 105, 100, 32, 112, 100, 119, 97, 105, 116, 32, 112, 100, 107, 105, 108, 108])).toArray }
def nl : ByteArray := { data := #[10] }
/-- The table's lines, as bytes. -/
def linesL : List (List UInt8) := spl 10 tbl.data.toList
/-- The words of the line of a number. -/
def words (n : Nat) : List (List UInt8) := Lib.fields (linesL.getD (n - 1) [])
/-- The rights' names. -/
def rnames : List (List UInt8) := Lib.fields nms.data.toList
theorem tbl_count : Lib.countB tbl nl = 63 := by kernel_rfl
theorem linesL_len : linesL.length = 64 := by kernel_rfl
theorem rnames_len : rnames.length = 32 := by kernel_rfl
theorem tbl_size : tbl.size < 4294967281 := by decide +kernel
theorem nms_size : nms.size < 4294967281 := by decide +kernel
theorem nms_ascii : nms.data.toList.all (fun b => decide (b.toNat < 128)) = true := by decide +kernel
theorem lines_ascii : linesL.all (fun l => decide (l.length < 256) && l.all (fun b => decide (b.toNat < 128))) = true := by decide +kernel
theorem words_len : (List.range 64).all (fun i => decide (3 ≤ (words (i + 1)).length) && decide ((words (i + 1)).length ≤ 5)) = true := by decide +kernel
theorem lines_eq : Lib.splitB nl 0 63 tbl = linesL.map (fun l => (⟨l.toArray⟩ : ByteArray)) := by
  have h := Lib.splitB_data nl 0 63 tbl
  rw [show nl.data.toList = [10] from rfl, splitK_eq 10 63 _ (by show linesL.length ≤ 64; rw [linesL_len]; omega)] at h
  rw [linesL, ← h, List.map_map]
  conv => lhs; rw [← List.map_id (Lib.splitB nl 0 63 tbl)]
  apply List.map_congr_left
  intro x _
  simp
end Go.Proofs.YtmjlfknkembhnaaDoor
