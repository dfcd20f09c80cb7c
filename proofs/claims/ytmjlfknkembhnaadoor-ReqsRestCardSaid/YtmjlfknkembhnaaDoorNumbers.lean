/- reqs.numbers, text, list: what they answer. Conditions: those named. -/
import Derived.Test.YtmjlfknkembhnaaDoorTakes
namespace Go.Proofs.YtmjlfknkembhnaaDoor
open Go Go.RowKit
theorem nonzero_any (n : Int) (w : World) : Calls Tryd.prog 37 #[.int .i64 n] w fun e w' => e = .returned (.bool (n != 0)) ∧ w = w' := by
  go_enter Tryd.func37, Tryd.ntmps37
  go_wp2
  go_ret
  exact ⟨rfl, rfl⟩
/-- A place at which a list of numbers is not 0, or below 0. -/
def FirstNon (zs : List Int) (w : World) (e : Ending) (w' : World) : Prop := ∃ r : Int, e = .returned (.int .i64 r) ∧ (0 ≤ r ↔ zs.any (· != 0) = true) ∧ w = w'
set_option maxHeartbeats 1000000 in
theorem indexFunc_any (b off c : Nat) (zs : List Int) (w : World) (hm : zs.length < 100) (hc : ∀ j, j < zs.length → w.cell? ⟨b, off + j, none⟩ = some (.int .i64 (zs.getD j 0))) :
    Calls Tryd.prog 46 #[.slice (some ⟨b, off, none⟩) zs.length c, .func (.func 37) #[] #[]] w (FirstNon zs w) := by
  generalize hlen : zs.length = m at *
  have HL := Lib.hid hlen; clear hlen
  have HC := Lib.hid hc; clear hc
  go_enter Tryd.func46, Tryd.ntmps46
  go_wp2_with fail
  go_loop [8] (fun v => ∃ k : Nat, v = .int .i64 k ∧ k ≤ m ∧ (zs.take k).any (· != 0) = false) (fun v => m - (intOf v).toNat)
  case atStart => exact ⟨0, rfl, Nat.zero_le _, by simp⟩
  case round =>
    obtain ⟨k, rfl, hk, hz⟩ := hrel
    have HZ := Lib.hid hz; clear hz
    by_cases hlt : k < m
    · have hcell := HC.out k hlt
      have htk : zs.take (k + 1) = zs.take k ++ [zs.getD k 0] := by
        rw [List.take_succ_eq_append_getElem (by rw [HL.out]; exact hlt), List.getD_eq_getElem?_getD, List.getElem?_eq_getElem (by rw [HL.out]; exact hlt)]; rfl
      have HT := Lib.hid htk; clear htk
      generalize hx : zs.getD k 0 = x at *
      have HX := Lib.hid hx; clear hx
      by_cases h0 : x = 0
      · subst h0
        go_wp2_with fail
        refine (nonzero_any _ _).mono ?_
        rintro e w' ⟨rfl, rfl⟩
        go_wp2_with fail
        go_round
        case rel => exact ⟨k + 1, by go_num, by omega, by rw [HT.out, List.any_append, HZ.out]; rfl⟩
        case measure => simp [intOf]; omega
      · have h1 : (x != 0) = true := by rw [bne_iff_ne]; exact h0
        go_wp2_with fail
        refine (nonzero_any _ _).mono ?_
        rintro e w' ⟨rfl, rfl⟩
        have ha : zs.any (· != 0) = true := by
          rw [List.any_eq_true]
          refine ⟨x, ?_, h1⟩
          have := HX.out
          rw [List.getD_eq_getElem?_getD, List.getElem?_eq_getElem (by rw [HL.out]; exact hlt)] at this
          rw [← this]; exact List.getElem_mem _
        have HA := Lib.hid ha; clear ha
        go_wp2_with fail
        go_ret
        exact ⟨k, rfl, by rw [HA.out]; simp, rfl⟩
    · have ha : zs.any (· != 0) = false := by
        have := HZ.out
        rwa [List.take_of_length_le (by rw [HL.out]; omega)] at this
      have HA := Lib.hid ha; clear ha
      go_wp2_with fail
      go_ret
      exact ⟨-1, rfl, by rw [HA.out]; simp, rfl⟩
theorem containsFunc_any (b off c : Nat) (zs : List Int) (w : World) (hm : zs.length < 100) (hc : ∀ j, j < zs.length → w.cell? ⟨b, off + j, none⟩ = some (.int .i64 (zs.getD j 0))) :
    Calls Tryd.prog 36 #[.slice (some ⟨b, off, none⟩) zs.length c, .func (.func 37) #[] #[]] w fun e w' => e = .returned (.bool (zs.any (· != 0))) ∧ w = w' := by
  have HC := Lib.hid hc; clear hc
  generalize ha : zs.any (· != 0) = a
  have HA := Lib.hid ha; clear ha
  go_enter Tryd.func36, Tryd.ntmps36
  go_wp2_with fail
  refine (indexFunc_any b off c zs _ hm HC.out).mono ?_
  rintro e w' ⟨r, rfl, hr, rfl⟩
  rw [HA.out] at hr
  have hd : decide (0 ≤ r) = a := by cases a <;> simp_all
  have HD := Lib.hid hd; clear hd hr
  go_wp2_with fail
  go_ret
  exact ⟨by rw [← HD.out]; rfl, rfl⟩
/-- Whether numbers fit a shape. -/
def nums : List UInt8 → List Int → Bool
  | [], A => !(A.any (· != 0))
  | c :: sh, A => if 97 ≤ c.toNat ∧ c.toNat ≤ 122 then (match A with
    | [] => false
    | a :: A' => if takesP c.toNat a then nums sh A' else false) else nums sh A
theorem nums_nil (A : List Int) : nums [] A = !(A.any (· != 0)) := by rw [nums.eq_def]
theorem nums_big {c : UInt8} {sh : List UInt8} {A : List Int} (h : ¬ (97 ≤ c.toNat ∧ c.toNat ≤ 122)) : nums (c :: sh) A = nums sh A := by rw [nums.eq_def]; simp only [if_neg h]
theorem nums_small {c : UInt8} {sh : List UInt8} {A : List Int} {i : Nat} (h : 97 ≤ c.toNat ∧ c.toNat ≤ 122) (hi : i < A.length) : nums (c :: sh) (A.drop i) = if takesP c.toNat (A.getD i 0) then nums sh (A.drop (i + 1)) else false := by
  rw [nums.eq_def, List.drop_eq_getElem_cons hi]
  simp only [h, and_self, if_true]
  rw [List.getD_eq_getElem?_getD, List.getElem?_eq_getElem hi]; rfl
set_option maxRecDepth 100000 in
set_option maxHeartbeats 2000000 in
theorem numbers_any (sh : ByteArray) (hs : sh.size ≤ 5) (a0 a1 a2 a3 a4 : Int) (w : World) :
    Calls Tryd.prog 26 #[.string sh, .agg #[.int .i64 a0, .int .i64 a1, .int .i64 a2, .int .i64 a3, .int .i64 a4]] w fun e w' => e = .returned (.bool (nums sh.data.toList [a0, a1, a2, a3, a4])) ∧ Below w.heap.size w w' := by
  have hcells : ∀ i : Nat, i < 5 → (w.alloc (.cells #[.int .i64 a0, .int .i64 a1, .int .i64 a2, .int .i64 a3, .int .i64 a4] 22)).cell? ⟨w.heap.size, i, none⟩ = some (.int .i64 ([a0, a1, a2, a3, a4].getD i 0)) := by
    intro i hi
    rw [World.cell?_alloc_new]
    match i, hi with
    | 0, _ => rfl
    | 1, _ => rfl
    | 2, _ => rfl
    | 3, _ => rfl
    | 4, _ => rfl
  generalize hR : nums sh.data.toList [a0, a1, a2, a3, a4] = R
  generalize hA : [a0, a1, a2, a3, a4] = A at *
  have hAl : A.length = 5 := by rw [← hA]; rfl
  have HR := Lib.hid hR; clear hR
  have HAl := Lib.hid hAl; clear hAl
  have HC := Lib.hid hcells; clear hcells
  have HA := Lib.hid hA; clear hA
  go_enter Tryd.func26, Tryd.ntmps26
  go_wp2_with fail
  obtain ⟨W, hW⟩ : ∃ W, w.alloc (.cells #[.int .i64 a0, .int .i64 a1, .int .i64 a2, .int .i64 a3, .int .i64 a4] 22) = W := ⟨_, rfl⟩
  rw [hW]
  have hBW : Below w.heap.size w W := by rw [← hW]; exact (Below.refl _ _).alloc (Nat.le_refl _) _
  have hcW : ∀ i : Nat, i < 5 → W.cell? ⟨w.heap.size, i, none⟩ = some (.int .i64 (A.getD i 0)) := by rw [← hW]; exact HC.out
  have HCW := Lib.hid hcW; clear hcW
  clear hW HC
  go_loop [5, 10] (fun vi vk => ∃ i k : Nat, vi = .int .i64 i ∧ vk = .int .i64 k ∧ i ≤ k ∧ k ≤ sh.size ∧ nums (sh.data.toList.drop k) (A.drop i) = R) (fun _ vk => sh.size - (intOf vk).toNat)
  case atStart => exact ⟨0, 0, rfl, rfl, Nat.le_refl _, Nat.zero_le _, by rw [List.drop_zero, List.drop_zero]; exact HR.out⟩
  case round =>
    obtain ⟨i, k, rfl, rfl, hik, hk, hn⟩ := hrel
    have HN := Lib.hid hn; clear hn
    by_cases hlt : k < sh.size
    · have hd : sh.data.toList.drop k = sh[k] :: sh.data.toList.drop (k + 1) := by
        rw [List.drop_eq_getElem_cons (by simpa using hlt)]; rfl
      have HD := Lib.hid hd; clear hd
      by_cases hsm : 97 ≤ sh[k].toNat ∧ sh[k].toNat ≤ 122
      · obtain ⟨hs1, hs2⟩ := hsm
        have hi5 : i < 5 := by omega
        have hcell := HCW.out i hi5
        have hst := nums_small (sh := sh.data.toList.drop (k + 1)) ⟨hs1, hs2⟩ (show i < A.length by rw [HAl.out]; exact hi5)
        rw [← HD.out, HN.out] at hst
        generalize hx : A.getD i 0 = x at *
        have HX := Lib.hid hx; clear hx
        by_cases ht : takesP sh[k].toNat x = true
        · rw [if_pos ht] at hst
          have HST := Lib.hid hst; clear hst
          go_wp2_with (go_at_call 21; refine (takes_any _ _ _).mono ?_; rintro e w' ⟨rfl, rfl⟩)
          go_round
          case rel => exact ⟨i + 1, k + 1, by go_num, by go_num, by omega, by omega, HST.out.symm⟩
          case measure => simp [intOf]; omega
        · rw [if_neg ht] at hst
          have HST := Lib.hid hst; clear hst
          have ht' : takesP sh[k].toNat x = false := by simpa using ht
          clear ht
          go_wp2_with (go_at_call 21; refine (takes_any _ _ _).mono ?_; rintro e w' ⟨rfl, rfl⟩)
          go_ret
          exact ⟨by rw [HST.out]; rfl, hBW⟩
      · have hst := nums_big (sh := sh.data.toList.drop (k + 1)) (A := A.drop i) hsm
        rw [← HD.out, HN.out] at hst
        have HST := Lib.hid hst; clear hst
        by_cases hs1 : 97 ≤ sh[k].toNat
        · have hs2 : 122 < sh[k].toNat := by omega
          clear hsm
          go_wp2_with fail
          go_round
          case rel => exact ⟨i, k + 1, rfl, by go_num, by omega, by omega, HST.out.symm⟩
          case measure => simp [intOf]; omega
        · clear hsm
          go_wp2_with fail
          go_round
          case rel => exact ⟨i, k + 1, rfl, by go_num, by omega, by omega, HST.out.symm⟩
          case measure => simp [intOf]; omega
    · have hn := HN.out
      rw [List.drop_of_length_le (by simp; omega), nums_nil] at hn
      have HN' := Lib.hid hn; clear hn
      by_cases hi : i = 5
      · subst hi
        rw [List.drop_of_length_le (by rw [HAl.out]; omega)] at HN'
        go_wp2_with fail
        refine (containsFunc_any w.heap.size 0 0 [] _ (by decide) (fun j hj => absurd hj (Nat.not_lt_zero _))).mono ?_
        rintro e w' ⟨rfl, rfl⟩
        go_wp2_with fail
        go_ret
        exact ⟨by rw [← HN'.out]; rfl, hBW⟩
      · have hi5 : (i : Int) ≤ 5 := by omega
        have hi5' : i ≤ 5 := by omega
        have hlA : (A.drop i).length = 5 - i := by rw [List.length_drop, HAl.out]
        have HLA := Lib.hid hlA; clear hlA
        go_wp2_with fail
        have hct := containsFunc_any w.heap.size i (5 - i) (A.drop i) W (by rw [HLA.out]; omega) (fun j hj => by
          have := HCW.out (i + j) (by rw [HLA.out] at hj; omega)
          rw [this]; congr 2
          rw [List.getD_eq_getElem?_getD, List.getD_eq_getElem?_getD, List.getElem?_drop])
        rw [HLA.out] at hct
        refine hct.mono ?_
        rintro e w' ⟨rfl, rfl⟩
        clear hct
        go_wp2_with fail
        go_ret
        exact ⟨by rw [← HN'.out]; rfl, hBW⟩
end Go.Proofs.YtmjlfknkembhnaaDoor
