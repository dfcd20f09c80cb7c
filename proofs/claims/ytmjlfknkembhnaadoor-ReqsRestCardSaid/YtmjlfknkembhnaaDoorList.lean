/- reqs.pairs and reqs.list: whether a list fits a shape. Conditions: those named. -/
import Derived.Test.YtmjlfknkembhnaaDoorAnyAt
namespace Go.Proofs.YtmjlfknkembhnaaDoor
open Go Go.RowKit
/-- A slice's address A holds the numbers zs. -/
def Ints (w : World) (A : Option Addr) (zs : List Int) : Prop := ∀ j, j < zs.length → ∃ b off, A = some ⟨b, off, none⟩ ∧ b < w.heap.size ∧ w.cell? ⟨b, off + j, none⟩ = some (.int .i64 (zs.getD j 0))
theorem Ints.below {w w' : World} {A : Option Addr} {zs : List Int} (h : Ints w A zs) (hb : Below w.heap.size w w') : Ints w' A zs := fun j hj => by
  obtain ⟨b, off, e, hlt, hc⟩ := h j hj
  exact ⟨b, off, e, Nat.lt_of_lt_of_le hlt hb.size, (hb.cell (p := ⟨b, off + j, none⟩) hlt).trans hc⟩
/-- Whether each second number, from the one at k on, is 1, 2 or 3. -/
def oddOk (zs : List Int) : Bool := (List.range zs.length).all fun j => j % 2 == 0 || (decide (1 ≤ zs.getD j 0) && decide (zs.getD j 0 ≤ 3))
def pairsP (zs : List Int) : Bool := zs.length % 2 == 0 && decide (zs.length ≤ 16) && oddOk zs
def okUpto (zs : List Int) (k : Nat) : Prop := ∀ j, j < k → j < zs.length → j % 2 = 1 → 1 ≤ zs.getD j 0 ∧ zs.getD j 0 ≤ 3
theorem oddOk_of (zs : List Int) (h : okUpto zs zs.length) : oddOk zs = true := by
  unfold oddOk
  rw [List.all_eq_true]
  intro j hj
  rw [List.mem_range] at hj
  by_cases e : j % 2 = 1
  · have := h j hj hj e
    rw [Bool.or_eq_true, Bool.and_eq_true, decide_eq_true_eq, decide_eq_true_eq]; exact .inr this
  · have : j % 2 = 0 := by omega
    simp [this]
theorem oddOk_not (zs : List Int) (j : Nat) (hj : j < zs.length) (ho : j % 2 = 1) (h : zs.getD j 0 < 1 ∨ 3 < zs.getD j 0) : oddOk zs = false := by
  cases e : oddOk zs with
  | false => rfl
  | true =>
    unfold oddOk at e
    rw [List.all_eq_true] at e
    have := e j (List.mem_range.2 hj)
    simp only [ho, Bool.or_eq_true, Bool.and_eq_true, decide_eq_true_eq, beq_iff_eq] at this
    omega
set_option maxRecDepth 100000 in
set_option maxHeartbeats 2000000 in
theorem pairs_any (A : Option Addr) (zs : List Int) (c : Nat) (w : World) (hlen : zs.length ≤ 1000) (hI : Ints w A zs) :
    Calls Tryd.prog 40 #[.slice A zs.length c] w fun e w' => e = .returned (.bool (pairsP zs)) ∧ w = w' := by
  generalize hR : pairsP zs = R
  unfold pairsP at hR
  have HI := Lib.hid hI; clear hI
  generalize hm : zs.length = m at *
  have HM := Lib.hid hm; clear hm
  by_cases h2 : m % 2 = 0
  · have h2' : (((m : Int) % 2) != 0) = false := by rw [bne_eq_false_iff_eq]; omega
    by_cases h16 : m ≤ 16
    · have h16' : (m : Int) ≤ 16 := by omega
      have hR' : oddOk zs = R := by rw [← hR]; simp [h2, h16]
      have HR := Lib.hid hR'; clear hR hR'
      clear h2
      go_enter Tryd.func40, Tryd.ntmps40
      go_wp2_with fail
      go_loop [3] (fun v => ∃ k : Nat, v = .int .i64 k ∧ k ≤ m + 1 ∧ k % 2 = 1 ∧ okUpto zs k) (fun v => m + 2 - (intOf v).toNat)
      case atStart => exact ⟨1, rfl, by omega, rfl, fun j hj _ ho => by omega⟩
      case round =>
        obtain ⟨k, rfl, hk, hodd, hok⟩ := hrel
        have HOK := Lib.hid hok; clear hok
        by_cases hlt : k < m
        · obtain ⟨b, off, rfl, hblt, hcell⟩ := HI.out k (by rw [HM.out]; exact hlt)
          have hnext : 1 ≤ zs.getD k 0 → zs.getD k 0 ≤ 3 → okUpto zs (k + 2) := fun a1 a2 j hj hjl ho => by
            by_cases e : j = k
            · subst e; exact ⟨a1, a2⟩
            · exact HOK.out j (by omega) hjl ho
          have hnot := oddOk_not zs k (by rw [HM.out]; exact hlt) hodd
          rw [HR.out] at hnot
          generalize hx : zs.getD k 0 = x at *
          have HX := Lib.hid hx; clear hx
          have HNX := Lib.hid hnext; clear hnext
          have HNT := Lib.hid hnot; clear hnot
          have HODD := Lib.hid hodd; clear hodd
          by_cases hx1 : 1 ≤ x
          · by_cases hx3 : x ≤ 3
            · go_wp2_with fail
              go_round
              case rel => exact ⟨k + 2, by go_num, by omega, by have := HODD.out; omega, HNX.out hx1 hx3⟩
              case measure => simp [intOf]; omega
            · go_wp2_with fail
              go_ret
              exact ⟨by rw [HNT.out (.inr (by omega))]; rfl, rfl⟩
          · go_wp2_with fail
            go_ret
            exact ⟨by rw [HNT.out (.inl (by omega))]; rfl, rfl⟩
        · have hall : okUpto zs zs.length := fun j hj _ ho => HOK.out j (by rw [HM.out] at hj; omega) hj ho
          have hR := oddOk_of zs hall
          rw [HR.out] at hR
          have HR' := Lib.hid hR; clear hR
          go_wp2_with fail
          go_ret
          exact ⟨by rw [HR'.out]; rfl, rfl⟩
    · have h16' : ¬ (m : Int) ≤ 16 := by omega
      have hR' : R = false := by rw [← hR]; simp [h16]
      have HR := Lib.hid hR'; clear hR hR'
      clear h2
      go_enter Tryd.func40, Tryd.ntmps40
      go_wp2_with fail
      go_ret
      exact ⟨by rw [HR.out]; rfl, rfl⟩
  · have h2' : (((m : Int) % 2) != 0) = true := by rw [bne_iff_ne]; omega
    have hR' : R = false := by rw [← hR]; simp [h2]
    have HR := Lib.hid hR'; clear hR hR'
    clear h2
    go_enter Tryd.func40, Tryd.ntmps40
    go_wp2_with fail
    go_ret
    exact ⟨by rw [HR.out]; rfl, rfl⟩
def lrip : ByteArray := { data := #[76, 82, 73, 80] }
/-- Whether a list fits a shape. -/
def listP (sh : ByteArray) (zs : List Int) : Bool :=
  if Lib.indexAny sh.data.toList lrip.data.toList < 0 then zs.length == 0
  else if ((sh.data.toList.getD (Lib.indexAny sh.data.toList lrip.data.toList).toNat 0).toNat : Int) == 76 then decide (zs.length ≤ 4)
  else if ((sh.data.toList.getD (Lib.indexAny sh.data.toList lrip.data.toList).toNat 0).toNat : Int) == 82 then zs.length == 2
  else if ((sh.data.toList.getD (Lib.indexAny sh.data.toList lrip.data.toList).toNat 0).toNat : Int) == 73 then decide (zs.length ≤ 64)
  else pairsP zs
set_option maxRecDepth 100000 in
set_option maxHeartbeats 2000000 in
theorem list_any (sh : ByteArray) (hs : sh.size ≤ 100) (ha : ascii sh) (A : Option Addr) (zs : List Int) (c : Nat) (w : World) (hlen : zs.length ≤ 1000) (hI : Ints w A zs) :
    Calls Tryd.prog 28 #[.string sh, .slice A zs.length c] w fun e w' => e = .returned (.bool (listP sh zs)) ∧ Below w.heap.size w w' := by
  have hlt := indexAny_lt lrip.data.toList sh.data.toList
  have hge := Lib.indexAny_ge lrip.data.toList sh.data.toList
  have hc := fun w => Tryd.strings_IndexAny_laid sh lrip w (by omega) (by decide) (fun j b hb => by
    obtain ⟨hj, rfl⟩ := List.getElem?_eq_some_iff.1 hb
    exact ha j (by simpa using hj)) (fun j b hb => by
    have := List.mem_of_getElem? hb
    simp [lrip] at this
    rcases this with rfl | rfl | rfl | rfl <;> decide)
  generalize hR : listP sh zs = R
  unfold listP at hR
  have HI := Lib.hid hI; clear hI
  generalize hi : Lib.indexAny sh.data.toList lrip.data.toList = i at *
  have HC := Lib.hid hc; clear hc hi
  by_cases hneg : i < 0
  · rw [if_pos hneg] at hR
    have HR := Lib.hid hR; clear hR
    go_enter Tryd.func28, Tryd.ntmps28
    go_wp2_with fail
    refine (HC.out _).mono ?_
    rintro e w' ⟨rfl, hbel⟩
    go_wp2_with fail
    go_ret
    exact ⟨by rw [← HR.out]; exact congrArg (fun b => Ending.returned (.bool b)) (by first | rfl | (rw [Bool.eq_iff_iff]; simp)), hbel⟩
  · rw [if_neg hneg] at hR
    obtain ⟨k, rfl⟩ : ∃ k : Nat, i = k := ⟨i.toNat, by omega⟩
    have hk : k < sh.size := by rw [Lib.size_eq]; omega
    rw [Int.toNat_natCast, index_byte sh k hk] at hR
    generalize hd : sh[k]'hk = d at *
    have HD := Lib.hid hd; clear hd
    cases h76 : (((d.toNat : Int)) == 76) with
    | true =>
      have h' : (((sh[k]'hk).toNat : Int) == 76) = true := by rw [HD.out]; exact h76
      rw [h76] at hR
      have HR := Lib.hid hR; clear hR
      go_enter Tryd.func28, Tryd.ntmps28
      go_wp2_with fail
      refine (HC.out _).mono ?_
      rintro e w' ⟨rfl, hbel⟩
      go_wp2_with fail
      go_ret
      exact ⟨by rw [← HR.out]; exact congrArg (fun b => Ending.returned (.bool b)) (by first | rfl | (rw [Bool.eq_iff_iff]; simp; omega)), hbel⟩
    | false =>
      have h' : (((sh[k]'hk).toNat : Int) == 76) = false := by rw [HD.out]; exact h76
      rw [h76] at hR
      cases h82 : (((d.toNat : Int)) == 82) with
      | true =>
        have h'' : (((sh[k]'hk).toNat : Int) == 82) = true := by rw [HD.out]; exact h82
        rw [h82] at hR
        have HR := Lib.hid hR; clear hR
        go_enter Tryd.func28, Tryd.ntmps28
        go_wp2_with fail
        refine (HC.out _).mono ?_
        rintro e w' ⟨rfl, hbel⟩
        go_wp2_with fail
        go_ret
        exact ⟨by rw [← HR.out]; exact congrArg (fun b => Ending.returned (.bool b)) (by first | rfl | (rw [Bool.eq_iff_iff]; simp; omega)), hbel⟩
      | false =>
        have h'' : (((sh[k]'hk).toNat : Int) == 82) = false := by rw [HD.out]; exact h82
        rw [h82] at hR
        cases h73 : (((d.toNat : Int)) == 73) with
        | true =>
          have h3 : (((sh[k]'hk).toNat : Int) == 73) = true := by rw [HD.out]; exact h73
          rw [h73] at hR
          have HR := Lib.hid hR; clear hR
          go_enter Tryd.func28, Tryd.ntmps28
          go_wp2_with fail
          refine (HC.out _).mono ?_
          rintro e w' ⟨rfl, hbel⟩
          go_wp2_with fail
          go_ret
          exact ⟨by rw [← HR.out]; exact congrArg (fun b => Ending.returned (.bool b)) (by first | rfl | (rw [Bool.eq_iff_iff]; simp; omega)), hbel⟩
        | false =>
          have h3 : (((sh[k]'hk).toNat : Int) == 73) = false := by rw [HD.out]; exact h73
          rw [h73] at hR
          have HR := Lib.hid hR; clear hR
          go_enter Tryd.func28, Tryd.ntmps28
          go_wp2_with fail
          refine (HC.out _).mono ?_
          rintro e w' ⟨rfl, hbel⟩
          go_wp2_with fail
          refine (pairs_any A zs c _ hlen (HI.out.below hbel)).mono ?_
          rintro e w'' ⟨rfl, rfl⟩
          go_wp2_with fail
          go_ret
          exact ⟨by rw [← HR.out]; rfl, hbel⟩
end Go.Proofs.YtmjlfknkembhnaaDoor
