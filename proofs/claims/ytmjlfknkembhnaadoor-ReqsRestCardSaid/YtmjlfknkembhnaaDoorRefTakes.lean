/- The reference's Flags and Takes: what they answer. Conditions: none. -/
import Derived.Test.YtmjlfknkembhnaaDoorTakes
import Derived.Test.YtmjlfknkembhnaaDoorBits
namespace Go.Proofs.YtmjlfknkembhnaaDoor
open Go Go.RowKit
theorem has_any (n i : Int) (h0 : 0 ≤ i) (hi : i < 64) (w : World) : Calls Tryd.prog 31 #[.int .i64 n, .int .i64 i] w fun e w' => e = .returned (.bool (tb n i.toNat)) ∧ w = w' := by
  obtain ⟨i, rfl⟩ := Int.eq_ofNat_of_zero_le h0
  rw [Int.toNat_natCast]
  have h := has_bit n i (by omega)
  have H := Lib.hid h; clear h
  go_enter Tryd.func31, Tryd.ntmps31
  go_wp2
  go_ret
  exact ⟨by rw [← H.out]; rfl, rfl⟩
/-- Whether all bits below k may stand in flags. -/
def allOk (n : Int) (k : Nat) : Prop := ∀ i, i < k → tb n i = true → okBit i = true
theorem bad_of_bit (n : Int) (i : Nat) (hi : i < 64) (h : tb n i = true) (ho : okBit i = false) : flagsBad n = true := by
  have := (andNot_all n).2 ⟨i, hi, h, ho⟩
  unfold flagsBad; rw [this]; simp
theorem bad_eq (n : Int) (h : allOk n 64) : flagsBad n = ((tb n 0 && tb n 1) || ((tb n 10 && (!tb n 0 && !tb n 1)) || (tb n 9 && tb n 17))) := by
  have h1 : (bits BinOp.andNot .i64 n 134927 != 0) = false := by
    cases e : (bits BinOp.andNot .i64 n 134927 != 0) with
    | false => rfl
    | true =>
      obtain ⟨i, hi, h2, h3⟩ := (andNot_all n).1 e
      rw [h i hi h2] at h3; cases h3
  unfold flagsBad
  rw [h1, and3_3, and_1024, and3_0, and_512, and_131072]
  simp
theorem flagsE_bad {n : Int} (h : flagsBad n = true) : flagsE n = 22 := by unfold flagsE; rw [if_pos h]
theorem flagsV_bad {n : Int} (h : flagsBad n = true) : flagsV n = 0 := by unfold flagsV; rw [if_pos h]
theorem flagsE_eq (n : Int) : flagsE n = if flagsBad n then 22 else 0 := rfl
theorem flags4_eq (n : Int) : flags4 n = 128 + (if tb n 0 && !tb n 1 then 0 else 1) + (if tb n 0 || tb n 1 then 2 else 0) + (if tb n 9 then 16 else 0) + (if tb n 10 then 64 else 0) := by
  unfold flags4 flags3 flags2 flags1
  rw [and_1024, and_512]
  unfold bne
  rw [and3_0, and3_1]
  cases tb n 0 <;> cases tb n 1 <;> cases tb n 9 <;> cases tb n 10 <;> decide
theorem flagsV_eq (n : Int) : flagsV n = if flagsBad n then 0 else 128 + (if tb n 0 && !tb n 1 then 0 else 1) + (if tb n 0 || tb n 1 then 2 else 0) + (if tb n 9 then 16 else 0) + (if tb n 10 then 64 else 0) := by
  unfold flagsV; rw [flags4_eq]
theorem ok_snoc {n : Int} {k : Nat} (h : allOk n k) (h1 : tb n k = true → okBit k = true) : allOk n (k + 1) := fun i hi ht => by
  by_cases e : i = k
  · subst e; exact h1 ht
  · exact h i (by omega) ht
set_option maxRecDepth 100000 in
set_option maxHeartbeats 4000000 in
theorem rflags_any (n : Int) (w : World) : Calls Tryd.prog 22 #[.int .i64 n] w fun e w' => e = .returned (.tuple #[.int .u32 (flagsV n), .int .i64 (flagsE n)]) ∧ w = w' := by
  go_enter Tryd.func22, Tryd.ntmps22
  go_wp2_with fail
  go_loop [4] (fun v => ∃ k : Nat, v = .int .i64 k ∧ k ≤ 64 ∧ allOk n k) (fun v => 64 - (intOf v).toNat)
  case atStart => exact ⟨0, rfl, by omega, fun i hi => absurd hi (Nat.not_lt_zero _)⟩
  case round =>
    obtain ⟨k, rfl, hk, hok⟩ := hrel
    have HOK := Lib.hid hok; clear hok
    by_cases hlt : k < 64
    · by_cases ht : tb n k = true
      · by_cases ho : okBit k = true
        · have ho' := ho
          simp only [okBit, Bool.or_eq_true, Bool.and_eq_true, decide_eq_true_eq, beq_iff_eq] at ho'
          have HN := Lib.hid (ok_snoc HOK.out (fun _ => ho))
          clear ho
          rcases ho' with (h3 | ⟨h8, h11⟩) | h17
          · go_wp2_with (go_at_call 31; refine (has_any _ _ (by omega) (by omega) _).mono ?_; rintro e w' ⟨rfl, rfl⟩)
            go_round
            case rel => exact ⟨k + 1, by go_num, by omega, HN.out⟩
            case measure => simp [intOf]; omega
          · go_wp2_with (go_at_call 31; refine (has_any _ _ (by omega) (by omega) _).mono ?_; rintro e w' ⟨rfl, rfl⟩)
            go_round
            case rel => exact ⟨k + 1, by go_num, by omega, HN.out⟩
            case measure => simp [intOf]; omega
          · subst h17
            go_wp2_with (go_at_call 31; refine (has_any _ _ (by omega) (by omega) _).mono ?_; rintro e w' ⟨rfl, rfl⟩)
            go_round
            case rel => exact ⟨18, rfl, by omega, HN.out⟩
            case measure => simp [intOf]
        · have hb := bad_of_bit n k hlt ht (by simpa using ho)
          have HB := Lib.hid hb; clear hb
          simp only [okBit, Bool.or_eq_true, Bool.and_eq_true, decide_eq_true_eq, beq_iff_eq] at ho
          have h3 : 3 < k := by omega
          have h17 : k ≠ 17 := by omega
          have h17' : ((k : Int) != 17) = true := by rw [bne_iff_ne]; omega
          have h17'' : ((k : Int) == 17) = false := beq_eq_false_iff_ne.2 (by omega)
          by_cases h8 : k < 8
          · clear ho
            go_wp2_with (go_at_call 31; refine (has_any _ _ (by omega) (by omega) _).mono ?_; rintro e w' ⟨rfl, rfl⟩)
            go_ret2
            exact ⟨by rw [flagsE_bad HB.out, flagsV_bad HB.out]; rfl, rfl⟩
          · have h11 : 11 < k := by omega
            clear ho
            go_wp2_with (go_at_call 31; refine (has_any _ _ (by omega) (by omega) _).mono ?_; rintro e w' ⟨rfl, rfl⟩)
            go_ret2
            exact ⟨by rw [flagsE_bad HB.out, flagsV_bad HB.out]; rfl, rfl⟩
      · have HN := Lib.hid (ok_snoc HOK.out (fun h => absurd h ht))
        have ht' : tb n k = false := by simpa using ht
        clear ht
        go_wp2_with (go_at_call 31; refine (has_any _ _ (by omega) (by omega) _).mono ?_; rintro e w' ⟨rfl, rfl⟩)
        go_round
        case rel => exact ⟨k + 1, by go_num, by omega, HN.out⟩
        case measure => simp [intOf]; omega
    · obtain rfl : k = 64 := by omega
      have hbad := bad_eq n HOK.out
      have HBD := Lib.hid hbad; clear hbad
      go_wp2_with (go_at_call 31; refine (has_any _ _ (by omega) (by omega) _).mono ?_; rintro e w' ⟨rfl, rfl⟩)
      all_goals go_ret2
      all_goals refine ⟨?_, rfl⟩
      all_goals (rw [flagsE_eq, flagsV_eq, HBD.out]; simp_all)
set_option maxRecDepth 100000 in
set_option maxHeartbeats 4000000 in
theorem rtakes_any (c n : Int) (w : World) : Calls Tryd.prog 14 #[.int .u8 c, .int .i64 n] w fun e w' => e = .returned (.bool (takesP c n)) ∧ w = w' := by
  go_enter Tryd.func14, Tryd.ntmps14
  go_wp2_with (go_at_call 22; refine (rflags_any _ _).mono ?_; rintro e w' ⟨rfl, rfl⟩)
  all_goals go_ret
  all_goals refine ⟨?_, rfl⟩
  all_goals first
    | (simp [takesP, *]; done)
    | (simp_all [takesP, within]; done)
    | (simp_all [takesP, within]; omega)
end Go.Proofs.YtmjlfknkembhnaaDoor
