/- Single bits of a whole number of 64 bits: plain facts. Conditions: none. -/
import Derived.Laws.BitsLemmas
import Derived.KernelRfl
namespace Go.Proofs.YtmjlfknkembhnaaDoor
open Go
/-- Whether a bit is set. -/
def tb (n : Int) (i : Nat) : Bool := (BitVec.ofInt 64 n).getLsbD i
theorem tb_nat (n : Int) (i : Nat) : tb n i = ((n % 18446744073709551616).toNat / 2 ^ i % 2 == 1) := by
  unfold tb BitVec.getLsbD
  rw [BitVec.toNat_ofInt, Nat.testBit_eq_decide_div_mod_eq]
  rw [Bool.eq_iff_iff]; simp
theorem i64_wrap_eq (b : BitVec 64) (v : Nat) (hv : v < 9223372036854775808) : (IntKind.i64.wrap (b.toNat : Int) = (v : Int)) ↔ b = BitVec.ofNat 64 v := by
  have := b.isLt
  rw [IntKind.wrap_i64]
  constructor
  · intro h
    apply BitVec.eq_of_toNat_eq
    rw [BitVec.toNat_ofNat]
    omega
  · rintro rfl
    rw [BitVec.toNat_ofNat]
    omega
theorem bits_and_eq (n m : Int) (v : Nat) (hv : v < 9223372036854775808) : (bits .and .i64 n m == (v : Int)) = (BitVec.ofInt 64 n &&& BitVec.ofInt 64 m == BitVec.ofNat 64 v) := by
  rw [Bool.eq_iff_iff, beq_iff_eq, beq_iff_eq]
  exact i64_wrap_eq _ v hv
theorem bits_andNot_eq (n m : Int) : (bits .andNot .i64 n m == 0) = (BitVec.ofInt 64 n &&& ~~~BitVec.ofInt 64 m == 0#64) := by
  rw [Bool.eq_iff_iff, beq_iff_eq, beq_iff_eq]
  exact i64_wrap_eq _ 0 (by decide)
theorem and_pow (n : Int) (i : Nat) (hi : i < 64) (m : Int) (hm : BitVec.ofInt 64 m = BitVec.twoPow 64 i) : (bits .and .i64 n m != 0) = tb n i := by
  have h := bits_and_eq n m 0 (by decide)
  unfold bne
  rw [show ((0 : Nat) : Int) = 0 from rfl] at h
  rw [h, hm, BitVec.and_twoPow]
  unfold tb
  cases (BitVec.ofInt 64 n).getLsbD i with
  | true =>
    simp only [if_true]
    rw [Bool.eq_iff_iff]; simp
    intro e
    have := congrArg (fun b => b.getLsbD i) e
    simp [hi] at this
  | false => simp
theorem and_512 (n : Int) : (bits .and .i64 n 512 != 0) = tb n 9 := and_pow n 9 (by decide) 512 (by decide)
theorem and_1024 (n : Int) : (bits .and .i64 n 1024 != 0) = tb n 10 := and_pow n 10 (by decide) 1024 (by decide)
theorem and_131072 (n : Int) : (bits .and .i64 n 131072 != 0) = tb n 17 := and_pow n 17 (by decide) 131072 (by decide)
theorem and_three (n : Int) (v : Nat) (hv : v < 4) : (bits .and .i64 n 3 == (v : Int)) = (((n % 18446744073709551616).toNat % 4) == v) := by
  rw [bits_and_eq n 3 v (by omega), Bool.eq_iff_iff, beq_iff_eq, beq_iff_eq]
  have e : (BitVec.ofInt 64 n &&& BitVec.ofInt 64 3).toNat = (n % 18446744073709551616).toNat % 4 := by
    rw [BitVec.toNat_and, BitVec.toNat_ofInt, show (BitVec.ofInt 64 3).toNat = 2 ^ 2 - 1 from rfl, Nat.and_two_pow_sub_one_eq_mod]
    rfl
  constructor
  · intro h; rw [← e, h, BitVec.toNat_ofNat]; omega
  · intro h; apply BitVec.eq_of_toNat_eq; rw [e, h, BitVec.toNat_ofNat]; omega
theorem and3_3 (n : Int) : (bits .and .i64 n 3 == 3) = (tb n 0 && tb n 1) := by
  rw [show (bits .and .i64 n 3 == 3) = (bits .and .i64 n 3 == ((3 : Nat) : Int)) from rfl, and_three n 3 (by decide), tb_nat, tb_nat, Bool.eq_iff_iff]
  simp only [Bool.and_eq_true, beq_iff_eq]; omega
theorem and3_0 (n : Int) : (bits .and .i64 n 3 == 0) = (!tb n 0 && !tb n 1) := by
  rw [show (bits .and .i64 n 3 == 0) = (bits .and .i64 n 3 == ((0 : Nat) : Int)) from rfl, and_three n 0 (by decide), tb_nat, tb_nat, Bool.eq_iff_iff]
  simp only [Bool.and_eq_true, beq_iff_eq, Bool.not_eq_true', beq_eq_false_iff_ne]; omega
theorem and3_1 (n : Int) : (bits .and .i64 n 3 == 1) = (tb n 0 && !tb n 1) := by
  rw [show (bits .and .i64 n 3 == 1) = (bits .and .i64 n 3 == ((1 : Nat) : Int)) from rfl, and_three n 1 (by decide), tb_nat, tb_nat, Bool.eq_iff_iff]
  simp only [Bool.and_eq_true, beq_iff_eq, Bool.not_eq_true', beq_eq_false_iff_ne]; omega
/-- Whether a bit may stand in flags. -/
def okBit (i : Nat) : Bool := decide (i ≤ 3) || (decide (8 ≤ i) && decide (i ≤ 11)) || i == 17
theorem mask_bits : (List.range 64).all (fun i => (BitVec.ofInt 64 134927).getLsbD i == okBit i) = true := by decide +kernel
theorem andNot_all (n : Int) : (bits .andNot .i64 n 134927 != 0) = true ↔ ∃ i, i < 64 ∧ tb n i = true ∧ okBit i = false := by
  unfold bne
  rw [bits_andNot_eq, Bool.not_eq_true', beq_eq_false_iff_ne]
  constructor
  · intro h
    apply Classical.byContradiction
    intro hno
    apply h
    apply BitVec.eq_of_getLsbD_eq
    intro i hi
    have hm := List.all_eq_true.1 mask_bits i (List.mem_range.2 hi)
    rw [beq_iff_eq] at hm
    rw [BitVec.getLsbD_and, BitVec.getLsbD_not, hm]
    have : ¬ (tb n i = true ∧ okBit i = false) := fun x => hno ⟨i, hi, x⟩
    unfold tb at this
    cases h1 : (BitVec.ofInt 64 n).getLsbD i <;> cases h2 : okBit i <;> simp_all
  · rintro ⟨i, hi, h1, h2⟩ e
    have hm := List.all_eq_true.1 mask_bits i (List.mem_range.2 hi)
    rw [beq_iff_eq] at hm
    have := congrArg (fun b => b.getLsbD i) e
    simp only [BitVec.getLsbD_and, BitVec.getLsbD_not, hm, h2] at this
    unfold tb at h1
    rw [h1] at this
    simp [hi] at this
theorem has_bit (n : Int) (i : Nat) (hi : i < 64) : (bits .and .i64 (n / 2 ^ i) 1 == 1) = tb n i := by
  rw [show (bits .and .i64 (n / 2 ^ i) 1 == 1) = (bits .and .i64 (n / 2 ^ i) 1 == ((1 : Nat) : Int)) from rfl, bits_and_eq _ _ 1 (by decide), tb_nat]
  rw [Bool.eq_iff_iff, beq_iff_eq, beq_iff_eq]
  have e : (BitVec.ofInt 64 (n / 2 ^ i) &&& BitVec.ofInt 64 1).toNat = ((n / 2 ^ i) % 18446744073709551616).toNat % 2 := by
    rw [BitVec.toNat_and, BitVec.toNat_ofInt, show (BitVec.ofInt 64 1).toNat = 2 ^ 1 - 1 from rfl, Nat.and_two_pow_sub_one_eq_mod]
    rfl
  have hp : (2 : Int) ^ i ≠ 0 := Int.pow_ne_zero (by decide)
  have hsplit : n / 2 ^ i = (n % 18446744073709551616) / 2 ^ i + 2 ^ (64 - i) * (n / 18446744073709551616) := by
    have h1 : n = n % 18446744073709551616 + 2 ^ i * (2 ^ (64 - i) * (n / 18446744073709551616)) := by
      have hpw : (2 : Int) ^ i * 2 ^ (64 - i) = 18446744073709551616 := by
        rw [← Int.pow_add, show i + (64 - i) = 64 by omega]; rfl
      rw [← Int.mul_assoc, hpw]; omega
    conv => lhs; rw [h1]
    rw [Int.add_mul_ediv_left _ _ hp]
  have hev : ∃ c : Int, 2 ^ (64 - i) * (n / 18446744073709551616) = 2 * c := by
    refine ⟨2 ^ (63 - i) * (n / 18446744073709551616), ?_⟩
    rw [show 64 - i = (63 - i) + 1 by omega, Int.pow_succ, Int.mul_comm (2 ^ (63 - i)) 2, Int.mul_assoc]
  obtain ⟨c, hc⟩ := hev
  have hr : ((n % 18446744073709551616).toNat / 2 ^ i : Nat) = ((n % 18446744073709551616) / 2 ^ i).toNat := by
    obtain ⟨r, hr⟩ : ∃ r : Nat, n % 18446744073709551616 = r := ⟨(n % 18446744073709551616).toNat, by omega⟩
    rw [hr, Int.toNat_natCast]
    have : ((r : Int) / 2 ^ i) = ((r / 2 ^ i : Nat) : Int) := by simp
    rw [this, Int.toNat_natCast]
  have hq : 0 ≤ (n % 18446744073709551616) / 2 ^ i := Int.ediv_nonneg (by omega) (Int.le_of_lt (Int.pow_pos (by decide)))
  rw [hr]
  constructor
  · intro h; rw [h, BitVec.toNat_ofNat] at e; omega
  · intro h; apply BitVec.eq_of_toNat_eq; rw [e, BitVec.toNat_ofNat]; omega
end Go.Proofs.YtmjlfknkembhnaaDoor
