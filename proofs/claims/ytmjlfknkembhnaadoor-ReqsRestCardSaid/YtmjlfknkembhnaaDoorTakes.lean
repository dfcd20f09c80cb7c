/- calls.Flags and reqs.Takes, and the reference's: what they answer. Conditions: none. -/
import Derived.Test.YtmjlfknkembhnaaDoorFields
import Derived.Deep.QuietTactic
import Derived.BigQuiet
namespace Go.Proofs.YtmjlfknkembhnaaDoor
open Go Go.RowKit
/-- Whether flags are none. -/
def flagsBad (n : Int) : Bool :=
  ((bits BinOp.andNot .i64 n 134927 != 0) || (bits BinOp.and .i64 n 3 == 3)) ||
    (((bits BinOp.and .i64 n 1024 != 0) && (bits BinOp.and .i64 n 3 == 0)) || ((bits BinOp.and .i64 n 512 != 0) && (bits BinOp.and .i64 n 131072 != 0)))
def flagsE (n : Int) : Int := if flagsBad n then 22 else 0
def flags1 (n : Int) : Int := if bits BinOp.and .i64 n 3 != 1 then bits BinOp.or .u32 128 1 else 128
def flags2 (n : Int) : Int := if bits BinOp.and .i64 n 3 != 0 then bits BinOp.or .u32 (flags1 n) 2 else flags1 n
def flags3 (n : Int) : Int := if bits BinOp.and .i64 n 512 != 0 then bits BinOp.or .u32 (flags2 n) 16 else flags2 n
def flags4 (n : Int) : Int := if bits BinOp.and .i64 n 1024 != 0 then bits BinOp.or .u32 (flags3 n) 64 else flags3 n
def flagsV (n : Int) : Int := if flagsBad n then 0 else flags4 n
set_option maxRecDepth 100000 in
set_option maxHeartbeats 1000000 in
theorem flags_any (n : Int) (w : World) : Calls Tryd.prog 30 #[.int .i64 n] w fun e w' => e = .returned (.tuple #[.int .u32 (flagsV n), .int .i64 (flagsE n)]) ∧ w = w' := by
  go_enter Tryd.func30, Tryd.ntmps30
  go_wp2
  all_goals go_ret2
  all_goals refine ⟨?_, rfl⟩
  all_goals (unfold flagsV flagsE flags4 flags3 flags2 flags1; have e : flagsBad n = flagsBad n := rfl; unfold flagsBad at *; simp_all)
def within (n most : Int) : Bool := decide (0 ≤ n) && decide (n ≤ most)
theorem upto_any (n most : Int) (w : World) : Calls Tryd.prog 29 #[.int .i64 n, .int .i64 most] w fun e w' => e = .returned (.bool (within n most)) ∧ w = w' := by
  by_cases h : 0 ≤ n
  · have e : within n most = decide (n ≤ most) := by simp [within, h]
    have E := Lib.hid e; clear e
    go_enter Tryd.func29, Tryd.ntmps29
    go_wp2
    go_ret
    exact ⟨by rw [E.out]; rfl, rfl⟩
  · have e : within n most = false := by simp [within, h]
    have E := Lib.hid e; clear e
    go_enter Tryd.func29, Tryd.ntmps29
    go_wp2
    go_ret
    exact ⟨by rw [E.out]; rfl, rfl⟩
/-- Whether a number may stand for a letter. -/
def takesP (c n : Int) : Bool :=
  if c == 102 then true else if c == 100 then true else if c == 120 then true else if c == 105 then true
  else if c == 110 then within n 256
  else if c == 111 then within n 1099511627776
  else if c == 119 then within n 2 else if c == 104 then within n 2
  else if c == 117 then within n 1
  else if c == 101 then within n 255
  else if c == 115 then within n 31
  else if c == 109 then within n 4
  else if c == 99 then within n 64
  else if c == 98 then within n 1048576
  else if c == 107 then (n == 0 || n == 4)
  else if c == 103 then flagsE n == 0
  else false
set_option maxRecDepth 100000 in
set_option maxHeartbeats 4000000 in
theorem takes_any (c n : Int) (w : World) : Calls Tryd.prog 21 #[.int .u8 c, .int .i64 n] w fun e w' => e = .returned (.bool (takesP c n)) ∧ w = w' := by
  go_enter Tryd.func21, Tryd.ntmps21
  go_wp2_with (first
    | (go_at_call 29; refine (upto_any _ _ _).mono ?_; rintro e w' ⟨rfl, rfl⟩)
    | (go_at_call 30; refine (flags_any _ _).mono ?_; rintro e w' ⟨rfl, rfl⟩))
  all_goals go_ret
  all_goals (refine ⟨?_, rfl⟩; simp [takesP, *])
theorem Takes_any (c n : Int) (w : World) : Calls Tryd.prog 13 #[.int .u8 c, .int .i64 n] w fun e w' => e = .returned (.bool (takesP c n)) ∧ w = w' := by
  go_enter Tryd.func13, Tryd.ntmps13
  go_wp2_with (go_at_call 21; refine (takes_any _ _ _).mono ?_; rintro e w' ⟨rfl, rfl⟩)
  go_ret
  exact ⟨rfl, rfl⟩
end Go.Proofs.YtmjlfknkembhnaaDoor
