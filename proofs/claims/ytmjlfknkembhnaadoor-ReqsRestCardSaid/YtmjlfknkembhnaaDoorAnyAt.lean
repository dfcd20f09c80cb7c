/- reqs.anyAt: where one of some letters first stands. Conditions: short texts of single bytes. -/
import Derived.Test.YtmjlfknkembhnaaDoorFields
import Derived.Lib.OthersKept
import Derived.Lib.IndexAny
namespace Go.Proofs.YtmjlfknkembhnaaDoor
open Go Go.RowKit
def ascii (s : ByteArray) : Prop := ∀ (j : Nat) (h : j < s.size), (s[j]'h).toNat < 128
/-- Where an iterator stands. -/
def posAt (B : Nat) (w : World) : Nat := match w.heap[B]? with | some (.stringIter _ p) => p | _ => 0
theorem posAt_eq {B : Nat} {w : World} {s : ByteArray} {p : Nat} (h : w.heap[B]? = some (.stringIter s p)) : posAt B w = p := by unfold posAt; rw [h]
theorem byte_at (s : ByteArray) (k : Nat) (h : k < s.size) : s.data.toList[k]? = some (s[k]'h) := by
  rw [List.getElem?_eq_getElem (by simpa using h)]; rfl
set_option maxRecDepth 100000 in
set_option maxHeartbeats 2000000 in
theorem anyAt_any (s ls : ByteArray) (ha : ascii s) (hb : ascii ls) (w : World) :
    Calls Tryd.prog 38 #[.string s, .string ls] w fun e w' => e = .returned (.int .i64 (Lib.indexAny s.data.toList ls.data.toList)) ∧ Below w.heap.size w w' := by
  generalize hR : Lib.indexAny s.data.toList ls.data.toList = R
  have HR := Lib.hid hR; clear hR
  have HA := Lib.hid ha; clear ha
  have HB := Lib.hid hb; clear hb
  go_enter Tryd.func38, Tryd.ntmps38
  go_wp2_with fail
  have h0 := World.iter_heap w s 0
  have hB0 : Below w.heap.size w (w.iter s 0) := (Below.refl _ _).alloc (Nat.le_refl _) _
  generalize w.iter s 0 = W0 at *
  go_loopw [11] (fun _ wr => ∃ k : Nat, wr.heap[w.heap.size]? = some (.stringIter s k) ∧ k ≤ s.size ∧ Below w.heap.size w wr ∧ Lib.NoAny s.data.toList ls.data.toList k)
    (fun _ wr => s.size - posAt w.heap.size wr)
  case atStart => exact ⟨0, h0, Nat.zero_le _, hB0, fun j y hj _ => absurd hj (Nat.not_lt_zero _)⟩
  case round =>
    obtain ⟨k, hk, hks, hbel, hno⟩ := hrel
    have HNO := Lib.hid hno; clear hno
    by_cases hp : k < s.size
    · have hnx := fun ty => Lib.run_next_ascii_at (P := Tryd.prog) wr w.heap.size s k ty hk hp (HA.out k hp)
      have hk1 := Lib.iterAt_heap wr w.heap.size s k (k + 1) hk
      have hbel1 := Lib.below_iterAt hbel (Nat.le_refl _) s (k + 1)
      have HM := Lib.hid (posAt_eq hk)
      have hsz1 : (wr.iterAt w.heap.size s (k + 1)).heap.size = wr.heap.size := Lib.iterAt_size _ _ _ _
      have hlt1 : w.heap.size < wr.heap.size := (Array.getElem?_eq_some_iff.1 hk).1
      clear hk
      go_wp2_with fail
      generalize wr.iterAt w.heap.size s (k + 1) = W1 at *
      obtain ⟨wo, rfl⟩ : ∃ wo : World, wo = wr := ⟨_, rfl⟩
      have hi1 : (W1.iter ls 0).heap[wo.heap.size]? = some (.stringIter ls 0) := by rw [← hsz1]; exact World.iter_heap W1 ls 0
      have hi2 : (W1.iter ls 0).heap[w.heap.size]? = some (.stringIter s (k + 1)) := (Below.heap_alloc _ _ _ (by omega)).trans hk1
      have hbel2 : Below w.heap.size w (W1.iter ls 0) := hbel1.alloc (by omega) _
      generalize hW2 : W1.iter ls 0 = W2 at *
      clear hW2 hk1 hbel1 hbel hnx
      have hcb : (s[k]'hp).toNat < 128 := HA.out k hp
      generalize hc : s[k]'hp = c at *
      have HC := Lib.hid hc; clear hc
      go_loopw [17] (fun _ w2 => ∃ j : Nat, w2.heap[wo.heap.size]? = some (.stringIter ls j) ∧ w2.heap[w.heap.size]? = some (.stringIter s (k + 1)) ∧ j ≤ ls.size ∧ Below w.heap.size w w2 ∧ (ls.data.toList.take j).contains c = false)
        (fun _ w2 => ls.size - posAt wo.heap.size w2)
      case atStart => exact ⟨0, hi1, hi2, Nat.zero_le _, hbel2, by simp⟩
      case round =>
        clear hi1 hi2 hbel2
        obtain ⟨j, hj1, hj2, hjl, hbel, hnc⟩ := hrel
        have HNC := Lib.hid hnc; clear hnc
        by_cases hq : j < ls.size
        · have hnx := fun ty => Lib.run_next_ascii_at (P := Tryd.prog) wr wo.heap.size ls j ty hj1 hq (HB.out j hq)
          have hj1' := Lib.iterAt_heap wr wo.heap.size ls j (j + 1) hj1
          have hj2' := (Lib.iterAt_other wr wo.heap.size w.heap.size ls (j + 1) (by omega)).trans hj2
          have hbel' := Lib.below_iterAt hbel (Nat.le_of_lt hlt1) ls (j + 1)
          have HM2 := Lib.hid (posAt_eq hj1)
          clear hj1 hj2
          have hdb : (ls[j]'hq).toNat < 128 := HB.out j hq
          have htk : ls.data.toList.take (j + 1) = ls.data.toList.take j ++ [ls[j]'hq] := by
            rw [List.take_succ_eq_append_getElem (by simpa using hq)]; rfl
          generalize hd : ls[j]'hq = d at *
          have HD := Lib.hid hd; clear hd
          have HT := Lib.hid htk; clear htk
          generalize hW3 : wr.iterAt wo.heap.size ls (j + 1) = W3 at *
          clear hW3
          by_cases hcd : c = d
          · have hct : ((c.toNat : Int) == (d.toNat : Int)) = true := by rw [hcd]; simp
            have hres : Lib.indexAny s.data.toList ls.data.toList = k := Lib.indexAny_hit HNO.out (x := c) (by rw [byte_at s k hp, HC.out]) (by
              rw [List.contains_iff_mem, hcd]
              have := byte_at ls j hq
              rw [HD.out] at this
              exact List.mem_of_getElem? this)
            have HRES := Lib.hid hres; clear hres
            clear hcd
            go_wp2_with fail
            go_ret
            exact ⟨by rw [← HR.out, HRES.out]; rfl, hbel'⟩
          · have hct : ((c.toNat : Int) == (d.toNat : Int)) = false := by
              rw [beq_eq_false_iff_ne]
              intro e
              exact hcd (UInt8.toNat_inj.1 (by omega))
            have hnc' : (ls.data.toList.take (j + 1)).contains c = false := by
              rw [HT.out]
              have := HNC.out
              simp_all
            have HNC' := Lib.hid hnc'; clear hnc'
            clear hcd
            go_wp2_with fail
            go_roundw
            case rel => exact ⟨j + 1, hj1', hj2', by omega, hbel', HNC'.out⟩
            case measure => rw [posAt_eq hj1', HM2.out]; omega
        · have hnx := fun ty => Lib.run_next_end_at (P := Tryd.prog) wr wo.heap.size ls j ty hj1 hq
          have hnc' : ls.data.toList.contains c = false := by
            have := HNC.out
            rwa [List.take_of_length_le (by simp; omega)] at this
          have HNC' := Lib.hid hnc'; clear hnc'
          go_wp2_with fail
          go_roundw
          case rel => exact ⟨k + 1, hj2, by omega, hbel, fun i y hi hy => by
            by_cases e : i = k
            · subst e
              rw [byte_at s i hp, HC.out] at hy
              cases hy; exact HNC'.out
            · exact HNO.out i y (by omega) hy⟩
          case measure => rw [posAt_eq hj2, HM.out]; omega
    · have hnx := fun ty => Lib.run_next_end_at (P := Tryd.prog) wr w.heap.size s k ty hk hp
      have hres : Lib.indexAny s.data.toList ls.data.toList = -1 := Lib.indexAny_none (by
        have := HNO.out
        rwa [show k = s.data.toList.length by simp; omega] at this)
      have HRES := Lib.hid hres; clear hres
      go_wp2_with fail
      go_ret
      exact ⟨by rw [← HR.out, HRES.out]; rfl, hbel⟩
/-- Whether a text fits a shape. -/
def textP (sh ls : ByteArray) (n : Nat) : Bool :=
  if Lib.indexAny sh.data.toList ls.data.toList < 0 then n == 0
  else if (sh.data.toList.getD (Lib.indexAny sh.data.toList ls.data.toList).toNat 0).toNat == 66 then decide (n ≤ 256) else decide (n ≤ 4096)
theorem indexAny_lt (chars : List UInt8) : ∀ l : List UInt8, Lib.indexAny l chars < (l.length : Int)
  | [] => by simp [Lib.indexAny]
  | b :: l => by
    have ih := indexAny_lt chars l
    have hg := Lib.indexAny_ge chars l
    unfold Lib.indexAny
    simp only [List.length_cons]
    split
    · omega
    · split <;> omega
theorem index_byte (s : ByteArray) (k : Nat) (h : k < s.size) : s.data.toList.getD k 0 = s[k]'h := by
  rw [List.getD_eq_getElem?_getD, byte_at s k h]; rfl
theorem empty_size (s : ByteArray) : (s.size == 0) = s.toList.isEmpty := by
  rw [Lib.toList_data, Lib.size_eq]
  cases s.data.toList <;> simp
set_option maxRecDepth 100000 in
set_option maxHeartbeats 2000000 in
theorem text_any (sh ls s : ByteArray) (ha : ascii sh) (hb : ascii ls) (hm : s.size ≤ 9223372036854775807) (w : World) :
    Calls Tryd.prog 27 #[.string sh, .string ls, .string s] w fun e w' => e = .returned (.bool (textP sh ls s.size)) ∧ Below w.heap.size w w' := by
  have hlt := indexAny_lt ls.data.toList sh.data.toList
  have hge := Lib.indexAny_ge ls.data.toList sh.data.toList
  generalize hR : textP sh ls s.size = R
  unfold textP at hR
  have HA := Lib.hid ha; clear ha
  have HB := Lib.hid hb; clear hb
  have hc := fun w => anyAt_any sh ls HA.out HB.out w
  generalize hi : Lib.indexAny sh.data.toList ls.data.toList = i at *
  have HC := Lib.hid hc; clear hc hi
  by_cases hneg : i < 0
  · rw [if_pos hneg] at hR
    have HR := Lib.hid hR; clear hR
    go_enter Tryd.func27, Tryd.ntmps27
    go_wp2_with fail
    refine (HC.out _).mono ?_
    rintro e w' ⟨rfl, hbel⟩
    go_wp2_with fail
    go_ret
    exact ⟨by rw [← HR.out, empty_size]; rfl, hbel⟩
  · rw [if_neg hneg] at hR
    obtain ⟨k, rfl⟩ : ∃ k : Nat, i = k := ⟨i.toNat, by omega⟩
    have hk : k < sh.size := by rw [Lib.size_eq]; omega
    rw [Int.toNat_natCast, index_byte sh k hk] at hR
    generalize hd : sh[k]'hk = d at *
    have HD := Lib.hid hd; clear hd
    by_cases h66 : d.toNat = 66
    · have ht : ((d.toNat : Int) == 66) = true := by rw [beq_iff_eq]; omega
      have ht' : (((sh[k]'hk).toNat : Int) == 66) = true := by rw [HD.out]; exact ht
      rw [if_pos (by rw [beq_iff_eq]; exact h66)] at hR
      have HR := Lib.hid hR; clear hR
      go_enter Tryd.func27, Tryd.ntmps27
      go_wp2_with fail
      refine (HC.out _).mono ?_
      rintro e w' ⟨rfl, hbel⟩
      go_wp2_with fail
      go_ret
      exact ⟨by rw [← HR.out]; exact congrArg (fun b => Ending.returned (.bool b)) (decide_eq_decide.2 (by omega)), hbel⟩
    · have ht : ((d.toNat : Int) == 66) = false := by rw [beq_eq_false_iff_ne]; omega
      have ht' : (((sh[k]'hk).toNat : Int) == 66) = false := by rw [HD.out]; exact ht
      rw [if_neg (by rw [beq_iff_eq]; exact h66)] at hR
      have HR := Lib.hid hR; clear hR
      go_enter Tryd.func27, Tryd.ntmps27
      go_wp2_with fail
      refine (HC.out _).mono ?_
      rintro e w' ⟨rfl, hbel⟩
      go_wp2_with fail
      go_ret
      exact ⟨by rw [← HR.out]; exact congrArg (fun b => Ending.returned (.bool b)) (decide_eq_decide.2 (by omega)), hbel⟩
end Go.Proofs.YtmjlfknkembhnaaDoor
