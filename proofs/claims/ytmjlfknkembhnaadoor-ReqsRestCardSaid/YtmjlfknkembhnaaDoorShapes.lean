/- What the reference answers of a shape is what the program's looks at it say. Conditions: none. -/
import Derived.Test.YtmjlfknkembhnaaDoorRefCheck
namespace Go.Proofs.YtmjlfknkembhnaaDoor
open Go Go.RowKit
set_option linter.unusedSimpArgs false
theorem shape0 (a0 a1 a2 a3 a4 : Int) (S T : Nat) (zs : List Int) : refGo [a0, a1, a2, a3, a4] zs S T ([101] : List UInt8) 0 0 0 0 false = if fitsP ({ data := #[101] } : ByteArray) [a0, a1, a2, a3, a4] S T zs then 0 else 22 := by
  have e1 : textP ({ data := #[101] } : ByteArray) sby S = (S == 0) := by unfold textP; rw [show Lib.indexAny ({ data := #[101] } : ByteArray).data.toList sby.data.toList = -1 from by decide]; rfl
  have e2 : textP ({ data := #[101] } : ByteArray) tee T = (T == 0) := by unfold textP; rw [show Lib.indexAny ({ data := #[101] } : ByteArray).data.toList tee.data.toList = -1 from by decide]; rfl
  have e3 : listP ({ data := #[101] } : ByteArray) zs = (zs.length == 0) := by unfold listP; rw [show Lib.indexAny ({ data := #[101] } : ByteArray).data.toList lrip.data.toList = -1 from by decide]; rfl
  have e4 : nums ({ data := #[101] } : ByteArray).data.toList [a0, a1, a2, a3, a4] = (if takesP 101 a0 then (!([a1, a2, a3, a4].any (· != 0))) else false) := by simp [nums]
  unfold fitsP
  rw [e1, e2, e3, e4]
  simp only [refGo, refEnd, pairsP]
  simp only [List.any_cons, List.any_nil, List.drop_succ_cons, List.drop_zero, List.getD_cons_zero, List.getD_cons_succ]
  simp
  all_goals grind
theorem shape1 (a0 a1 a2 a3 a4 : Int) (S T : Nat) (zs : List Int) : refGo [a0, a1, a2, a3, a4] zs S T ([] : List UInt8) 0 0 0 0 false = if fitsP ({ data := #[] } : ByteArray) [a0, a1, a2, a3, a4] S T zs then 0 else 22 := by
  have e1 : textP ({ data := #[] } : ByteArray) sby S = (S == 0) := by unfold textP; rw [show Lib.indexAny ({ data := #[] } : ByteArray).data.toList sby.data.toList = -1 from by decide]; rfl
  have e2 : textP ({ data := #[] } : ByteArray) tee T = (T == 0) := by unfold textP; rw [show Lib.indexAny ({ data := #[] } : ByteArray).data.toList tee.data.toList = -1 from by decide]; rfl
  have e3 : listP ({ data := #[] } : ByteArray) zs = (zs.length == 0) := by unfold listP; rw [show Lib.indexAny ({ data := #[] } : ByteArray).data.toList lrip.data.toList = -1 from by decide]; rfl
  have e4 : nums ({ data := #[] } : ByteArray).data.toList [a0, a1, a2, a3, a4] = (!([a0, a1, a2, a3, a4].any (· != 0))) := by simp [nums]
  unfold fitsP
  rw [e1, e2, e3, e4]
  simp only [refGo, refEnd, pairsP]
  simp only [List.any_cons, List.any_nil, List.drop_succ_cons, List.drop_zero, List.getD_cons_zero, List.getD_cons_succ]
  simp
  all_goals grind
theorem shape2 (a0 a1 a2 a3 a4 : Int) (S T : Nat) (zs : List Int) : refGo [a0, a1, a2, a3, a4] zs S T ([102, 110] : List UInt8) 0 0 0 0 false = if fitsP ({ data := #[102, 110] } : ByteArray) [a0, a1, a2, a3, a4] S T zs then 0 else 22 := by
  have e1 : textP ({ data := #[102, 110] } : ByteArray) sby S = (S == 0) := by unfold textP; rw [show Lib.indexAny ({ data := #[102, 110] } : ByteArray).data.toList sby.data.toList = -1 from by decide]; rfl
  have e2 : textP ({ data := #[102, 110] } : ByteArray) tee T = (T == 0) := by unfold textP; rw [show Lib.indexAny ({ data := #[102, 110] } : ByteArray).data.toList tee.data.toList = -1 from by decide]; rfl
  have e3 : listP ({ data := #[102, 110] } : ByteArray) zs = (zs.length == 0) := by unfold listP; rw [show Lib.indexAny ({ data := #[102, 110] } : ByteArray).data.toList lrip.data.toList = -1 from by decide]; rfl
  have e4 : nums ({ data := #[102, 110] } : ByteArray).data.toList [a0, a1, a2, a3, a4] = (if takesP 102 a0 then (if takesP 110 a1 then (!([a2, a3, a4].any (· != 0))) else false) else false) := by simp [nums]
  unfold fitsP
  rw [e1, e2, e3, e4]
  simp only [refGo, refEnd, pairsP]
  simp only [List.any_cons, List.any_nil, List.drop_succ_cons, List.drop_zero, List.getD_cons_zero, List.getD_cons_succ]
  simp
  all_goals grind
theorem shape3 (a0 a1 a2 a3 a4 : Int) (S T : Nat) (zs : List Int) : refGo [a0, a1, a2, a3, a4] zs S T ([102, 66] : List UInt8) 0 0 0 0 false = if fitsP ({ data := #[102, 66] } : ByteArray) [a0, a1, a2, a3, a4] S T zs then 0 else 22 := by
  have e1 : textP ({ data := #[102, 66] } : ByteArray) sby S = decide (S ≤ 256) := by unfold textP; rw [show Lib.indexAny ({ data := #[102, 66] } : ByteArray).data.toList sby.data.toList = 1 from by decide]; rfl
  have e2 : textP ({ data := #[102, 66] } : ByteArray) tee T = (T == 0) := by unfold textP; rw [show Lib.indexAny ({ data := #[102, 66] } : ByteArray).data.toList tee.data.toList = -1 from by decide]; rfl
  have e3 : listP ({ data := #[102, 66] } : ByteArray) zs = (zs.length == 0) := by unfold listP; rw [show Lib.indexAny ({ data := #[102, 66] } : ByteArray).data.toList lrip.data.toList = -1 from by decide]; rfl
  have e4 : nums ({ data := #[102, 66] } : ByteArray).data.toList [a0, a1, a2, a3, a4] = (if takesP 102 a0 then (!([a1, a2, a3, a4].any (· != 0))) else false) := by simp [nums]
  unfold fitsP
  rw [e1, e2, e3, e4]
  simp only [refGo, refEnd, pairsP]
  simp only [List.any_cons, List.any_nil, List.drop_succ_cons, List.drop_zero, List.getD_cons_zero, List.getD_cons_succ]
  simp
  all_goals grind
theorem shape4 (a0 a1 a2 a3 a4 : Int) (S T : Nat) (zs : List Int) : refGo [a0, a1, a2, a3, a4] zs S T ([103, 83] : List UInt8) 0 0 0 0 false = if fitsP ({ data := #[103, 83] } : ByteArray) [a0, a1, a2, a3, a4] S T zs then 0 else 22 := by
  have e1 : textP ({ data := #[103, 83] } : ByteArray) sby S = decide (S ≤ 4096) := by unfold textP; rw [show Lib.indexAny ({ data := #[103, 83] } : ByteArray).data.toList sby.data.toList = 1 from by decide]; rfl
  have e2 : textP ({ data := #[103, 83] } : ByteArray) tee T = (T == 0) := by unfold textP; rw [show Lib.indexAny ({ data := #[103, 83] } : ByteArray).data.toList tee.data.toList = -1 from by decide]; rfl
  have e3 : listP ({ data := #[103, 83] } : ByteArray) zs = (zs.length == 0) := by unfold listP; rw [show Lib.indexAny ({ data := #[103, 83] } : ByteArray).data.toList lrip.data.toList = -1 from by decide]; rfl
  have e4 : nums ({ data := #[103, 83] } : ByteArray).data.toList [a0, a1, a2, a3, a4] = (if takesP 103 a0 then (!([a1, a2, a3, a4].any (· != 0))) else false) := by simp [nums]
  unfold fitsP
  rw [e1, e2, e3, e4]
  simp only [refGo, refEnd, pairsP]
  simp only [List.any_cons, List.any_nil, List.drop_succ_cons, List.drop_zero, List.getD_cons_zero, List.getD_cons_succ]
  simp
  all_goals grind
theorem shape5 (a0 a1 a2 a3 a4 : Int) (S T : Nat) (zs : List Int) : refGo [a0, a1, a2, a3, a4] zs S T ([102] : List UInt8) 0 0 0 0 false = if fitsP ({ data := #[102] } : ByteArray) [a0, a1, a2, a3, a4] S T zs then 0 else 22 := by
  have e1 : textP ({ data := #[102] } : ByteArray) sby S = (S == 0) := by unfold textP; rw [show Lib.indexAny ({ data := #[102] } : ByteArray).data.toList sby.data.toList = -1 from by decide]; rfl
  have e2 : textP ({ data := #[102] } : ByteArray) tee T = (T == 0) := by unfold textP; rw [show Lib.indexAny ({ data := #[102] } : ByteArray).data.toList tee.data.toList = -1 from by decide]; rfl
  have e3 : listP ({ data := #[102] } : ByteArray) zs = (zs.length == 0) := by unfold listP; rw [show Lib.indexAny ({ data := #[102] } : ByteArray).data.toList lrip.data.toList = -1 from by decide]; rfl
  have e4 : nums ({ data := #[102] } : ByteArray).data.toList [a0, a1, a2, a3, a4] = (if takesP 102 a0 then (!([a1, a2, a3, a4].any (· != 0))) else false) := by simp [nums]
  unfold fitsP
  rw [e1, e2, e3, e4]
  simp only [refGo, refEnd, pairsP]
  simp only [List.any_cons, List.any_nil, List.drop_succ_cons, List.drop_zero, List.getD_cons_zero, List.getD_cons_succ]
  simp
  all_goals grind
theorem shape6 (a0 a1 a2 a3 a4 : Int) (S T : Nat) (zs : List Int) : refGo [a0, a1, a2, a3, a4] zs S T ([120, 117] : List UInt8) 0 0 0 0 false = if fitsP ({ data := #[120, 117] } : ByteArray) [a0, a1, a2, a3, a4] S T zs then 0 else 22 := by
  have e1 : textP ({ data := #[120, 117] } : ByteArray) sby S = (S == 0) := by unfold textP; rw [show Lib.indexAny ({ data := #[120, 117] } : ByteArray).data.toList sby.data.toList = -1 from by decide]; rfl
  have e2 : textP ({ data := #[120, 117] } : ByteArray) tee T = (T == 0) := by unfold textP; rw [show Lib.indexAny ({ data := #[120, 117] } : ByteArray).data.toList tee.data.toList = -1 from by decide]; rfl
  have e3 : listP ({ data := #[120, 117] } : ByteArray) zs = (zs.length == 0) := by unfold listP; rw [show Lib.indexAny ({ data := #[120, 117] } : ByteArray).data.toList lrip.data.toList = -1 from by decide]; rfl
  have e4 : nums ({ data := #[120, 117] } : ByteArray).data.toList [a0, a1, a2, a3, a4] = (if takesP 120 a0 then (if takesP 117 a1 then (!([a2, a3, a4].any (· != 0))) else false) else false) := by simp [nums]
  unfold fitsP
  rw [e1, e2, e3, e4]
  simp only [refGo, refEnd, pairsP]
  simp only [List.any_cons, List.any_nil, List.drop_succ_cons, List.drop_zero, List.getD_cons_zero, List.getD_cons_succ]
  simp
  all_goals grind
theorem shape7 (a0 a1 a2 a3 a4 : Int) (S T : Nat) (zs : List Int) : refGo [a0, a1, a2, a3, a4] zs S T ([83, 84] : List UInt8) 0 0 0 0 false = if fitsP ({ data := #[83, 84] } : ByteArray) [a0, a1, a2, a3, a4] S T zs then 0 else 22 := by
  have e1 : textP ({ data := #[83, 84] } : ByteArray) sby S = decide (S ≤ 4096) := by unfold textP; rw [show Lib.indexAny ({ data := #[83, 84] } : ByteArray).data.toList sby.data.toList = 0 from by decide]; rfl
  have e2 : textP ({ data := #[83, 84] } : ByteArray) tee T = decide (T ≤ 4096) := by unfold textP; rw [show Lib.indexAny ({ data := #[83, 84] } : ByteArray).data.toList tee.data.toList = 1 from by decide]; rfl
  have e3 : listP ({ data := #[83, 84] } : ByteArray) zs = (zs.length == 0) := by unfold listP; rw [show Lib.indexAny ({ data := #[83, 84] } : ByteArray).data.toList lrip.data.toList = -1 from by decide]; rfl
  have e4 : nums ({ data := #[83, 84] } : ByteArray).data.toList [a0, a1, a2, a3, a4] = (!([a0, a1, a2, a3, a4].any (· != 0))) := by simp [nums]
  unfold fitsP
  rw [e1, e2, e3, e4]
  simp only [refGo, refEnd, pairsP]
  simp only [List.any_cons, List.any_nil, List.drop_succ_cons, List.drop_zero, List.getD_cons_zero, List.getD_cons_succ]
  simp
  all_goals grind
theorem shape8 (a0 a1 a2 a3 a4 : Int) (S T : Nat) (zs : List Int) : refGo [a0, a1, a2, a3, a4] zs S T ([83] : List UInt8) 0 0 0 0 false = if fitsP ({ data := #[83] } : ByteArray) [a0, a1, a2, a3, a4] S T zs then 0 else 22 := by
  have e1 : textP ({ data := #[83] } : ByteArray) sby S = decide (S ≤ 4096) := by unfold textP; rw [show Lib.indexAny ({ data := #[83] } : ByteArray).data.toList sby.data.toList = 0 from by decide]; rfl
  have e2 : textP ({ data := #[83] } : ByteArray) tee T = (T == 0) := by unfold textP; rw [show Lib.indexAny ({ data := #[83] } : ByteArray).data.toList tee.data.toList = -1 from by decide]; rfl
  have e3 : listP ({ data := #[83] } : ByteArray) zs = (zs.length == 0) := by unfold listP; rw [show Lib.indexAny ({ data := #[83] } : ByteArray).data.toList lrip.data.toList = -1 from by decide]; rfl
  have e4 : nums ({ data := #[83] } : ByteArray).data.toList [a0, a1, a2, a3, a4] = (!([a0, a1, a2, a3, a4].any (· != 0))) := by simp [nums]
  unfold fitsP
  rw [e1, e2, e3, e4]
  simp only [refGo, refEnd, pairsP]
  simp only [List.any_cons, List.any_nil, List.drop_succ_cons, List.drop_zero, List.getD_cons_zero, List.getD_cons_succ]
  simp
  all_goals grind
theorem shape9 (a0 a1 a2 a3 a4 : Int) (S T : Nat) (zs : List Int) : refGo [a0, a1, a2, a3, a4] zs S T ([120, 115] : List UInt8) 0 0 0 0 false = if fitsP ({ data := #[120, 115] } : ByteArray) [a0, a1, a2, a3, a4] S T zs then 0 else 22 := by
  have e1 : textP ({ data := #[120, 115] } : ByteArray) sby S = (S == 0) := by unfold textP; rw [show Lib.indexAny ({ data := #[120, 115] } : ByteArray).data.toList sby.data.toList = -1 from by decide]; rfl
  have e2 : textP ({ data := #[120, 115] } : ByteArray) tee T = (T == 0) := by unfold textP; rw [show Lib.indexAny ({ data := #[120, 115] } : ByteArray).data.toList tee.data.toList = -1 from by decide]; rfl
  have e3 : listP ({ data := #[120, 115] } : ByteArray) zs = (zs.length == 0) := by unfold listP; rw [show Lib.indexAny ({ data := #[120, 115] } : ByteArray).data.toList lrip.data.toList = -1 from by decide]; rfl
  have e4 : nums ({ data := #[120, 115] } : ByteArray).data.toList [a0, a1, a2, a3, a4] = (if takesP 120 a0 then (if takesP 115 a1 then (!([a2, a3, a4].any (· != 0))) else false) else false) := by simp [nums]
  unfold fitsP
  rw [e1, e2, e3, e4]
  simp only [refGo, refEnd, pairsP]
  simp only [List.any_cons, List.any_nil, List.drop_succ_cons, List.drop_zero, List.getD_cons_zero, List.getD_cons_succ]
  simp
  all_goals grind
theorem shape10 (a0 a1 a2 a3 a4 : Int) (S T : Nat) (zs : List Int) : refGo [a0, a1, a2, a3, a4] zs S T ([102, 120] : List UInt8) 0 0 0 0 false = if fitsP ({ data := #[102, 120] } : ByteArray) [a0, a1, a2, a3, a4] S T zs then 0 else 22 := by
  have e1 : textP ({ data := #[102, 120] } : ByteArray) sby S = (S == 0) := by unfold textP; rw [show Lib.indexAny ({ data := #[102, 120] } : ByteArray).data.toList sby.data.toList = -1 from by decide]; rfl
  have e2 : textP ({ data := #[102, 120] } : ByteArray) tee T = (T == 0) := by unfold textP; rw [show Lib.indexAny ({ data := #[102, 120] } : ByteArray).data.toList tee.data.toList = -1 from by decide]; rfl
  have e3 : listP ({ data := #[102, 120] } : ByteArray) zs = (zs.length == 0) := by unfold listP; rw [show Lib.indexAny ({ data := #[102, 120] } : ByteArray).data.toList lrip.data.toList = -1 from by decide]; rfl
  have e4 : nums ({ data := #[102, 120] } : ByteArray).data.toList [a0, a1, a2, a3, a4] = (if takesP 102 a0 then (if takesP 120 a1 then (!([a2, a3, a4].any (· != 0))) else false) else false) := by simp [nums]
  unfold fitsP
  rw [e1, e2, e3, e4]
  simp only [refGo, refEnd, pairsP]
  simp only [List.any_cons, List.any_nil, List.drop_succ_cons, List.drop_zero, List.getD_cons_zero, List.getD_cons_succ]
  simp
  all_goals grind
theorem shape11 (a0 a1 a2 a3 a4 : Int) (S T : Nat) (zs : List Int) : refGo [a0, a1, a2, a3, a4] zs S T ([107] : List UInt8) 0 0 0 0 false = if fitsP ({ data := #[107] } : ByteArray) [a0, a1, a2, a3, a4] S T zs then 0 else 22 := by
  have e1 : textP ({ data := #[107] } : ByteArray) sby S = (S == 0) := by unfold textP; rw [show Lib.indexAny ({ data := #[107] } : ByteArray).data.toList sby.data.toList = -1 from by decide]; rfl
  have e2 : textP ({ data := #[107] } : ByteArray) tee T = (T == 0) := by unfold textP; rw [show Lib.indexAny ({ data := #[107] } : ByteArray).data.toList tee.data.toList = -1 from by decide]; rfl
  have e3 : listP ({ data := #[107] } : ByteArray) zs = (zs.length == 0) := by unfold listP; rw [show Lib.indexAny ({ data := #[107] } : ByteArray).data.toList lrip.data.toList = -1 from by decide]; rfl
  have e4 : nums ({ data := #[107] } : ByteArray).data.toList [a0, a1, a2, a3, a4] = (if takesP 107 a0 then (!([a1, a2, a3, a4].any (· != 0))) else false) := by simp [nums]
  unfold fitsP
  rw [e1, e2, e3, e4]
  simp only [refGo, refEnd, pairsP]
  simp only [List.any_cons, List.any_nil, List.drop_succ_cons, List.drop_zero, List.getD_cons_zero, List.getD_cons_succ]
  simp
  all_goals grind
theorem shape12 (a0 a1 a2 a3 a4 : Int) (S T : Nat) (zs : List Int) : refGo [a0, a1, a2, a3, a4] zs S T ([102, 120, 120] : List UInt8) 0 0 0 0 false = if fitsP ({ data := #[102, 120, 120] } : ByteArray) [a0, a1, a2, a3, a4] S T zs then 0 else 22 := by
  have e1 : textP ({ data := #[102, 120, 120] } : ByteArray) sby S = (S == 0) := by unfold textP; rw [show Lib.indexAny ({ data := #[102, 120, 120] } : ByteArray).data.toList sby.data.toList = -1 from by decide]; rfl
  have e2 : textP ({ data := #[102, 120, 120] } : ByteArray) tee T = (T == 0) := by unfold textP; rw [show Lib.indexAny ({ data := #[102, 120, 120] } : ByteArray).data.toList tee.data.toList = -1 from by decide]; rfl
  have e3 : listP ({ data := #[102, 120, 120] } : ByteArray) zs = (zs.length == 0) := by unfold listP; rw [show Lib.indexAny ({ data := #[102, 120, 120] } : ByteArray).data.toList lrip.data.toList = -1 from by decide]; rfl
  have e4 : nums ({ data := #[102, 120, 120] } : ByteArray).data.toList [a0, a1, a2, a3, a4] = (if takesP 102 a0 then (if takesP 120 a1 then (if takesP 120 a2 then (!([a3, a4].any (· != 0))) else false) else false) else false) := by simp [nums]
  unfold fitsP
  rw [e1, e2, e3, e4]
  simp only [refGo, refEnd, pairsP]
  simp only [List.any_cons, List.any_nil, List.drop_succ_cons, List.drop_zero, List.getD_cons_zero, List.getD_cons_succ]
  simp
  all_goals grind
theorem shape13 (a0 a1 a2 a3 a4 : Int) (S T : Nat) (zs : List Int) : refGo [a0, a1, a2, a3, a4] zs S T ([89, 84] : List UInt8) 0 0 0 0 false = if fitsP ({ data := #[89, 84] } : ByteArray) [a0, a1, a2, a3, a4] S T zs then 0 else 22 := by
  have e1 : textP ({ data := #[89, 84] } : ByteArray) sby S = decide (S ≤ 4096) := by unfold textP; rw [show Lib.indexAny ({ data := #[89, 84] } : ByteArray).data.toList sby.data.toList = 0 from by decide]; rfl
  have e2 : textP ({ data := #[89, 84] } : ByteArray) tee T = decide (T ≤ 4096) := by unfold textP; rw [show Lib.indexAny ({ data := #[89, 84] } : ByteArray).data.toList tee.data.toList = 1 from by decide]; rfl
  have e3 : listP ({ data := #[89, 84] } : ByteArray) zs = (zs.length == 0) := by unfold listP; rw [show Lib.indexAny ({ data := #[89, 84] } : ByteArray).data.toList lrip.data.toList = -1 from by decide]; rfl
  have e4 : nums ({ data := #[89, 84] } : ByteArray).data.toList [a0, a1, a2, a3, a4] = (!([a0, a1, a2, a3, a4].any (· != 0))) := by simp [nums]
  unfold fitsP
  rw [e1, e2, e3, e4]
  simp only [refGo, refEnd, pairsP]
  simp only [List.any_cons, List.any_nil, List.drop_succ_cons, List.drop_zero, List.getD_cons_zero, List.getD_cons_succ]
  simp
  all_goals grind
theorem shape14 (a0 a1 a2 a3 a4 : Int) (S T : Nat) (zs : List Int) : refGo [a0, a1, a2, a3, a4] zs S T ([102, 105, 119] : List UInt8) 0 0 0 0 false = if fitsP ({ data := #[102, 105, 119] } : ByteArray) [a0, a1, a2, a3, a4] S T zs then 0 else 22 := by
  have e1 : textP ({ data := #[102, 105, 119] } : ByteArray) sby S = (S == 0) := by unfold textP; rw [show Lib.indexAny ({ data := #[102, 105, 119] } : ByteArray).data.toList sby.data.toList = -1 from by decide]; rfl
  have e2 : textP ({ data := #[102, 105, 119] } : ByteArray) tee T = (T == 0) := by unfold textP; rw [show Lib.indexAny ({ data := #[102, 105, 119] } : ByteArray).data.toList tee.data.toList = -1 from by decide]; rfl
  have e3 : listP ({ data := #[102, 105, 119] } : ByteArray) zs = (zs.length == 0) := by unfold listP; rw [show Lib.indexAny ({ data := #[102, 105, 119] } : ByteArray).data.toList lrip.data.toList = -1 from by decide]; rfl
  have e4 : nums ({ data := #[102, 105, 119] } : ByteArray).data.toList [a0, a1, a2, a3, a4] = (if takesP 102 a0 then (if takesP 105 a1 then (if takesP 119 a2 then (!([a3, a4].any (· != 0))) else false) else false) else false) := by simp [nums]
  unfold fitsP
  rw [e1, e2, e3, e4]
  simp only [refGo, refEnd, pairsP]
  simp only [List.any_cons, List.any_nil, List.drop_succ_cons, List.drop_zero, List.getD_cons_zero, List.getD_cons_succ]
  simp
  all_goals grind
theorem shape15 (a0 a1 a2 a3 a4 : Int) (S T : Nat) (zs : List Int) : refGo [a0, a1, a2, a3, a4] zs S T ([102, 111] : List UInt8) 0 0 0 0 false = if fitsP ({ data := #[102, 111] } : ByteArray) [a0, a1, a2, a3, a4] S T zs then 0 else 22 := by
  have e1 : textP ({ data := #[102, 111] } : ByteArray) sby S = (S == 0) := by unfold textP; rw [show Lib.indexAny ({ data := #[102, 111] } : ByteArray).data.toList sby.data.toList = -1 from by decide]; rfl
  have e2 : textP ({ data := #[102, 111] } : ByteArray) tee T = (T == 0) := by unfold textP; rw [show Lib.indexAny ({ data := #[102, 111] } : ByteArray).data.toList tee.data.toList = -1 from by decide]; rfl
  have e3 : listP ({ data := #[102, 111] } : ByteArray) zs = (zs.length == 0) := by unfold listP; rw [show Lib.indexAny ({ data := #[102, 111] } : ByteArray).data.toList lrip.data.toList = -1 from by decide]; rfl
  have e4 : nums ({ data := #[102, 111] } : ByteArray).data.toList [a0, a1, a2, a3, a4] = (if takesP 102 a0 then (if takesP 111 a1 then (!([a2, a3, a4].any (· != 0))) else false) else false) := by simp [nums]
  unfold fitsP
  rw [e1, e2, e3, e4]
  simp only [refGo, refEnd, pairsP]
  simp only [List.any_cons, List.any_nil, List.drop_succ_cons, List.drop_zero, List.getD_cons_zero, List.getD_cons_succ]
  simp
  all_goals grind
theorem shape16 (a0 a1 a2 a3 a4 : Int) (S T : Nat) (zs : List Int) : refGo [a0, a1, a2, a3, a4] zs S T ([117, 83] : List UInt8) 0 0 0 0 false = if fitsP ({ data := #[117, 83] } : ByteArray) [a0, a1, a2, a3, a4] S T zs then 0 else 22 := by
  have e1 : textP ({ data := #[117, 83] } : ByteArray) sby S = decide (S ≤ 4096) := by unfold textP; rw [show Lib.indexAny ({ data := #[117, 83] } : ByteArray).data.toList sby.data.toList = 1 from by decide]; rfl
  have e2 : textP ({ data := #[117, 83] } : ByteArray) tee T = (T == 0) := by unfold textP; rw [show Lib.indexAny ({ data := #[117, 83] } : ByteArray).data.toList tee.data.toList = -1 from by decide]; rfl
  have e3 : listP ({ data := #[117, 83] } : ByteArray) zs = (zs.length == 0) := by unfold listP; rw [show Lib.indexAny ({ data := #[117, 83] } : ByteArray).data.toList lrip.data.toList = -1 from by decide]; rfl
  have e4 : nums ({ data := #[117, 83] } : ByteArray).data.toList [a0, a1, a2, a3, a4] = (if takesP 117 a0 then (!([a1, a2, a3, a4].any (· != 0))) else false) := by simp [nums]
  unfold fitsP
  rw [e1, e2, e3, e4]
  simp only [refGo, refEnd, pairsP]
  simp only [List.any_cons, List.any_nil, List.drop_succ_cons, List.drop_zero, List.getD_cons_zero, List.getD_cons_succ]
  simp
  all_goals grind
theorem shape17 (a0 a1 a2 a3 a4 : Int) (S T : Nat) (zs : List Int) : refGo [a0, a1, a2, a3, a4] zs S T ([102, 110, 111] : List UInt8) 0 0 0 0 false = if fitsP ({ data := #[102, 110, 111] } : ByteArray) [a0, a1, a2, a3, a4] S T zs then 0 else 22 := by
  have e1 : textP ({ data := #[102, 110, 111] } : ByteArray) sby S = (S == 0) := by unfold textP; rw [show Lib.indexAny ({ data := #[102, 110, 111] } : ByteArray).data.toList sby.data.toList = -1 from by decide]; rfl
  have e2 : textP ({ data := #[102, 110, 111] } : ByteArray) tee T = (T == 0) := by unfold textP; rw [show Lib.indexAny ({ data := #[102, 110, 111] } : ByteArray).data.toList tee.data.toList = -1 from by decide]; rfl
  have e3 : listP ({ data := #[102, 110, 111] } : ByteArray) zs = (zs.length == 0) := by unfold listP; rw [show Lib.indexAny ({ data := #[102, 110, 111] } : ByteArray).data.toList lrip.data.toList = -1 from by decide]; rfl
  have e4 : nums ({ data := #[102, 110, 111] } : ByteArray).data.toList [a0, a1, a2, a3, a4] = (if takesP 102 a0 then (if takesP 110 a1 then (if takesP 111 a2 then (!([a3, a4].any (· != 0))) else false) else false) else false) := by simp [nums]
  unfold fitsP
  rw [e1, e2, e3, e4]
  simp only [refGo, refEnd, pairsP]
  simp only [List.any_cons, List.any_nil, List.drop_succ_cons, List.drop_zero, List.getD_cons_zero, List.getD_cons_succ]
  simp
  all_goals grind
theorem shape18 (a0 a1 a2 a3 a4 : Int) (S T : Nat) (zs : List Int) : refGo [a0, a1, a2, a3, a4] zs S T ([102, 111, 66] : List UInt8) 0 0 0 0 false = if fitsP ({ data := #[102, 111, 66] } : ByteArray) [a0, a1, a2, a3, a4] S T zs then 0 else 22 := by
  have e1 : textP ({ data := #[102, 111, 66] } : ByteArray) sby S = decide (S ≤ 256) := by unfold textP; rw [show Lib.indexAny ({ data := #[102, 111, 66] } : ByteArray).data.toList sby.data.toList = 2 from by decide]; rfl
  have e2 : textP ({ data := #[102, 111, 66] } : ByteArray) tee T = (T == 0) := by unfold textP; rw [show Lib.indexAny ({ data := #[102, 111, 66] } : ByteArray).data.toList tee.data.toList = -1 from by decide]; rfl
  have e3 : listP ({ data := #[102, 111, 66] } : ByteArray) zs = (zs.length == 0) := by unfold listP; rw [show Lib.indexAny ({ data := #[102, 111, 66] } : ByteArray).data.toList lrip.data.toList = -1 from by decide]; rfl
  have e4 : nums ({ data := #[102, 111, 66] } : ByteArray).data.toList [a0, a1, a2, a3, a4] = (if takesP 102 a0 then (if takesP 111 a1 then (!([a2, a3, a4].any (· != 0))) else false) else false) := by simp [nums]
  unfold fitsP
  rw [e1, e2, e3, e4]
  simp only [refGo, refEnd, pairsP]
  simp only [List.any_cons, List.any_nil, List.drop_succ_cons, List.drop_zero, List.getD_cons_zero, List.getD_cons_succ]
  simp
  all_goals grind
theorem shape19 (a0 a1 a2 a3 a4 : Int) (S T : Nat) (zs : List Int) : refGo [a0, a1, a2, a3, a4] zs S T ([102, 99] : List UInt8) 0 0 0 0 false = if fitsP ({ data := #[102, 99] } : ByteArray) [a0, a1, a2, a3, a4] S T zs then 0 else 22 := by
  have e1 : textP ({ data := #[102, 99] } : ByteArray) sby S = (S == 0) := by unfold textP; rw [show Lib.indexAny ({ data := #[102, 99] } : ByteArray).data.toList sby.data.toList = -1 from by decide]; rfl
  have e2 : textP ({ data := #[102, 99] } : ByteArray) tee T = (T == 0) := by unfold textP; rw [show Lib.indexAny ({ data := #[102, 99] } : ByteArray).data.toList tee.data.toList = -1 from by decide]; rfl
  have e3 : listP ({ data := #[102, 99] } : ByteArray) zs = (zs.length == 0) := by unfold listP; rw [show Lib.indexAny ({ data := #[102, 99] } : ByteArray).data.toList lrip.data.toList = -1 from by decide]; rfl
  have e4 : nums ({ data := #[102, 99] } : ByteArray).data.toList [a0, a1, a2, a3, a4] = (if takesP 102 a0 then (if takesP 99 a1 then (!([a2, a3, a4].any (· != 0))) else false) else false) := by simp [nums]
  unfold fitsP
  rw [e1, e2, e3, e4]
  simp only [refGo, refEnd, pairsP]
  simp only [List.any_cons, List.any_nil, List.drop_succ_cons, List.drop_zero, List.getD_cons_zero, List.getD_cons_succ]
  simp
  all_goals grind
theorem shape20 (a0 a1 a2 a3 a4 : Int) (S T : Nat) (zs : List Int) : refGo [a0, a1, a2, a3, a4] zs S T ([100, 103, 83] : List UInt8) 0 0 0 0 false = if fitsP ({ data := #[100, 103, 83] } : ByteArray) [a0, a1, a2, a3, a4] S T zs then 0 else 22 := by
  have e1 : textP ({ data := #[100, 103, 83] } : ByteArray) sby S = decide (S ≤ 4096) := by unfold textP; rw [show Lib.indexAny ({ data := #[100, 103, 83] } : ByteArray).data.toList sby.data.toList = 2 from by decide]; rfl
  have e2 : textP ({ data := #[100, 103, 83] } : ByteArray) tee T = (T == 0) := by unfold textP; rw [show Lib.indexAny ({ data := #[100, 103, 83] } : ByteArray).data.toList tee.data.toList = -1 from by decide]; rfl
  have e3 : listP ({ data := #[100, 103, 83] } : ByteArray) zs = (zs.length == 0) := by unfold listP; rw [show Lib.indexAny ({ data := #[100, 103, 83] } : ByteArray).data.toList lrip.data.toList = -1 from by decide]; rfl
  have e4 : nums ({ data := #[100, 103, 83] } : ByteArray).data.toList [a0, a1, a2, a3, a4] = (if takesP 100 a0 then (if takesP 103 a1 then (!([a2, a3, a4].any (· != 0))) else false) else false) := by simp [nums]
  unfold fitsP
  rw [e1, e2, e3, e4]
  simp only [refGo, refEnd, pairsP]
  simp only [List.any_cons, List.any_nil, List.drop_succ_cons, List.drop_zero, List.getD_cons_zero, List.getD_cons_succ]
  simp
  all_goals grind
theorem shape21 (a0 a1 a2 a3 a4 : Int) (S T : Nat) (zs : List Int) : refGo [a0, a1, a2, a3, a4] zs S T ([100, 83] : List UInt8) 0 0 0 0 false = if fitsP ({ data := #[100, 83] } : ByteArray) [a0, a1, a2, a3, a4] S T zs then 0 else 22 := by
  have e1 : textP ({ data := #[100, 83] } : ByteArray) sby S = decide (S ≤ 4096) := by unfold textP; rw [show Lib.indexAny ({ data := #[100, 83] } : ByteArray).data.toList sby.data.toList = 1 from by decide]; rfl
  have e2 : textP ({ data := #[100, 83] } : ByteArray) tee T = (T == 0) := by unfold textP; rw [show Lib.indexAny ({ data := #[100, 83] } : ByteArray).data.toList tee.data.toList = -1 from by decide]; rfl
  have e3 : listP ({ data := #[100, 83] } : ByteArray) zs = (zs.length == 0) := by unfold listP; rw [show Lib.indexAny ({ data := #[100, 83] } : ByteArray).data.toList lrip.data.toList = -1 from by decide]; rfl
  have e4 : nums ({ data := #[100, 83] } : ByteArray).data.toList [a0, a1, a2, a3, a4] = (if takesP 100 a0 then (!([a1, a2, a3, a4].any (· != 0))) else false) := by simp [nums]
  unfold fitsP
  rw [e1, e2, e3, e4]
  simp only [refGo, refEnd, pairsP]
  simp only [List.any_cons, List.any_nil, List.drop_succ_cons, List.drop_zero, List.getD_cons_zero, List.getD_cons_succ]
  simp
  all_goals grind
theorem shape22 (a0 a1 a2 a3 a4 : Int) (S T : Nat) (zs : List Int) : refGo [a0, a1, a2, a3, a4] zs S T ([100, 117, 83] : List UInt8) 0 0 0 0 false = if fitsP ({ data := #[100, 117, 83] } : ByteArray) [a0, a1, a2, a3, a4] S T zs then 0 else 22 := by
  have e1 : textP ({ data := #[100, 117, 83] } : ByteArray) sby S = decide (S ≤ 4096) := by unfold textP; rw [show Lib.indexAny ({ data := #[100, 117, 83] } : ByteArray).data.toList sby.data.toList = 2 from by decide]; rfl
  have e2 : textP ({ data := #[100, 117, 83] } : ByteArray) tee T = (T == 0) := by unfold textP; rw [show Lib.indexAny ({ data := #[100, 117, 83] } : ByteArray).data.toList tee.data.toList = -1 from by decide]; rfl
  have e3 : listP ({ data := #[100, 117, 83] } : ByteArray) zs = (zs.length == 0) := by unfold listP; rw [show Lib.indexAny ({ data := #[100, 117, 83] } : ByteArray).data.toList lrip.data.toList = -1 from by decide]; rfl
  have e4 : nums ({ data := #[100, 117, 83] } : ByteArray).data.toList [a0, a1, a2, a3, a4] = (if takesP 100 a0 then (if takesP 117 a1 then (!([a2, a3, a4].any (· != 0))) else false) else false) := by simp [nums]
  unfold fitsP
  rw [e1, e2, e3, e4]
  simp only [refGo, refEnd, pairsP]
  simp only [List.any_cons, List.any_nil, List.drop_succ_cons, List.drop_zero, List.getD_cons_zero, List.getD_cons_succ]
  simp
  all_goals grind
theorem shape23 (a0 a1 a2 a3 a4 : Int) (S T : Nat) (zs : List Int) : refGo [a0, a1, a2, a3, a4] zs S T ([100, 100, 83, 84] : List UInt8) 0 0 0 0 false = if fitsP ({ data := #[100, 100, 83, 84] } : ByteArray) [a0, a1, a2, a3, a4] S T zs then 0 else 22 := by
  have e1 : textP ({ data := #[100, 100, 83, 84] } : ByteArray) sby S = decide (S ≤ 4096) := by unfold textP; rw [show Lib.indexAny ({ data := #[100, 100, 83, 84] } : ByteArray).data.toList sby.data.toList = 2 from by decide]; rfl
  have e2 : textP ({ data := #[100, 100, 83, 84] } : ByteArray) tee T = decide (T ≤ 4096) := by unfold textP; rw [show Lib.indexAny ({ data := #[100, 100, 83, 84] } : ByteArray).data.toList tee.data.toList = 3 from by decide]; rfl
  have e3 : listP ({ data := #[100, 100, 83, 84] } : ByteArray) zs = (zs.length == 0) := by unfold listP; rw [show Lib.indexAny ({ data := #[100, 100, 83, 84] } : ByteArray).data.toList lrip.data.toList = -1 from by decide]; rfl
  have e4 : nums ({ data := #[100, 100, 83, 84] } : ByteArray).data.toList [a0, a1, a2, a3, a4] = (if takesP 100 a0 then (if takesP 100 a1 then (!([a2, a3, a4].any (· != 0))) else false) else false) := by simp [nums]
  unfold fitsP
  rw [e1, e2, e3, e4]
  simp only [refGo, refEnd, pairsP]
  simp only [List.any_cons, List.any_nil, List.drop_succ_cons, List.drop_zero, List.getD_cons_zero, List.getD_cons_succ]
  simp
  all_goals grind
theorem shape24 (a0 a1 a2 a3 a4 : Int) (S T : Nat) (zs : List Int) : refGo [a0, a1, a2, a3, a4] zs S T ([100, 100, 117, 83, 84] : List UInt8) 0 0 0 0 false = if fitsP ({ data := #[100, 100, 117, 83, 84] } : ByteArray) [a0, a1, a2, a3, a4] S T zs then 0 else 22 := by
  have e1 : textP ({ data := #[100, 100, 117, 83, 84] } : ByteArray) sby S = decide (S ≤ 4096) := by unfold textP; rw [show Lib.indexAny ({ data := #[100, 100, 117, 83, 84] } : ByteArray).data.toList sby.data.toList = 3 from by decide]; rfl
  have e2 : textP ({ data := #[100, 100, 117, 83, 84] } : ByteArray) tee T = decide (T ≤ 4096) := by unfold textP; rw [show Lib.indexAny ({ data := #[100, 100, 117, 83, 84] } : ByteArray).data.toList tee.data.toList = 4 from by decide]; rfl
  have e3 : listP ({ data := #[100, 100, 117, 83, 84] } : ByteArray) zs = (zs.length == 0) := by unfold listP; rw [show Lib.indexAny ({ data := #[100, 100, 117, 83, 84] } : ByteArray).data.toList lrip.data.toList = -1 from by decide]; rfl
  have e4 : nums ({ data := #[100, 100, 117, 83, 84] } : ByteArray).data.toList [a0, a1, a2, a3, a4] = (if takesP 100 a0 then (if takesP 100 a1 then (if takesP 117 a2 then (!([a3, a4].any (· != 0))) else false) else false) else false) := by simp [nums]
  unfold fitsP
  rw [e1, e2, e3, e4]
  simp only [refGo, refEnd, pairsP]
  simp only [List.any_cons, List.any_nil, List.drop_succ_cons, List.drop_zero, List.getD_cons_zero, List.getD_cons_succ]
  simp
  all_goals grind
theorem shape25 (a0 a1 a2 a3 a4 : Int) (S T : Nat) (zs : List Int) : refGo [a0, a1, a2, a3, a4] zs S T ([100, 89, 84] : List UInt8) 0 0 0 0 false = if fitsP ({ data := #[100, 89, 84] } : ByteArray) [a0, a1, a2, a3, a4] S T zs then 0 else 22 := by
  have e1 : textP ({ data := #[100, 89, 84] } : ByteArray) sby S = decide (S ≤ 4096) := by unfold textP; rw [show Lib.indexAny ({ data := #[100, 89, 84] } : ByteArray).data.toList sby.data.toList = 1 from by decide]; rfl
  have e2 : textP ({ data := #[100, 89, 84] } : ByteArray) tee T = decide (T ≤ 4096) := by unfold textP; rw [show Lib.indexAny ({ data := #[100, 89, 84] } : ByteArray).data.toList tee.data.toList = 2 from by decide]; rfl
  have e3 : listP ({ data := #[100, 89, 84] } : ByteArray) zs = (zs.length == 0) := by unfold listP; rw [show Lib.indexAny ({ data := #[100, 89, 84] } : ByteArray).data.toList lrip.data.toList = -1 from by decide]; rfl
  have e4 : nums ({ data := #[100, 89, 84] } : ByteArray).data.toList [a0, a1, a2, a3, a4] = (if takesP 100 a0 then (!([a1, a2, a3, a4].any (· != 0))) else false) := by simp [nums]
  unfold fitsP
  rw [e1, e2, e3, e4]
  simp only [refGo, refEnd, pairsP]
  simp only [List.any_cons, List.any_nil, List.drop_succ_cons, List.drop_zero, List.getD_cons_zero, List.getD_cons_succ]
  simp
  all_goals grind
theorem shape26 (a0 a1 a2 a3 a4 : Int) (S T : Nat) (zs : List Int) : refGo [a0, a1, a2, a3, a4] zs S T ([102, 83] : List UInt8) 0 0 0 0 false = if fitsP ({ data := #[102, 83] } : ByteArray) [a0, a1, a2, a3, a4] S T zs then 0 else 22 := by
  have e1 : textP ({ data := #[102, 83] } : ByteArray) sby S = decide (S ≤ 4096) := by unfold textP; rw [show Lib.indexAny ({ data := #[102, 83] } : ByteArray).data.toList sby.data.toList = 1 from by decide]; rfl
  have e2 : textP ({ data := #[102, 83] } : ByteArray) tee T = (T == 0) := by unfold textP; rw [show Lib.indexAny ({ data := #[102, 83] } : ByteArray).data.toList tee.data.toList = -1 from by decide]; rfl
  have e3 : listP ({ data := #[102, 83] } : ByteArray) zs = (zs.length == 0) := by unfold listP; rw [show Lib.indexAny ({ data := #[102, 83] } : ByteArray).data.toList lrip.data.toList = -1 from by decide]; rfl
  have e4 : nums ({ data := #[102, 83] } : ByteArray).data.toList [a0, a1, a2, a3, a4] = (if takesP 102 a0 then (!([a1, a2, a3, a4].any (· != 0))) else false) := by simp [nums]
  unfold fitsP
  rw [e1, e2, e3, e4]
  simp only [refGo, refEnd, pairsP]
  simp only [List.any_cons, List.any_nil, List.drop_succ_cons, List.drop_zero, List.getD_cons_zero, List.getD_cons_succ]
  simp
  all_goals grind
theorem shape27 (a0 a1 a2 a3 a4 : Int) (S T : Nat) (zs : List Int) : refGo [a0, a1, a2, a3, a4] zs S T ([100, 102, 83] : List UInt8) 0 0 0 0 false = if fitsP ({ data := #[100, 102, 83] } : ByteArray) [a0, a1, a2, a3, a4] S T zs then 0 else 22 := by
  have e1 : textP ({ data := #[100, 102, 83] } : ByteArray) sby S = decide (S ≤ 4096) := by unfold textP; rw [show Lib.indexAny ({ data := #[100, 102, 83] } : ByteArray).data.toList sby.data.toList = 2 from by decide]; rfl
  have e2 : textP ({ data := #[100, 102, 83] } : ByteArray) tee T = (T == 0) := by unfold textP; rw [show Lib.indexAny ({ data := #[100, 102, 83] } : ByteArray).data.toList tee.data.toList = -1 from by decide]; rfl
  have e3 : listP ({ data := #[100, 102, 83] } : ByteArray) zs = (zs.length == 0) := by unfold listP; rw [show Lib.indexAny ({ data := #[100, 102, 83] } : ByteArray).data.toList lrip.data.toList = -1 from by decide]; rfl
  have e4 : nums ({ data := #[100, 102, 83] } : ByteArray).data.toList [a0, a1, a2, a3, a4] = (if takesP 100 a0 then (if takesP 102 a1 then (!([a2, a3, a4].any (· != 0))) else false) else false) := by simp [nums]
  unfold fitsP
  rw [e1, e2, e3, e4]
  simp only [refGo, refEnd, pairsP]
  simp only [List.any_cons, List.any_nil, List.drop_succ_cons, List.drop_zero, List.getD_cons_zero, List.getD_cons_succ]
  simp
  all_goals grind
theorem shape28 (a0 a1 a2 a3 a4 : Int) (S T : Nat) (zs : List Int) : refGo [a0, a1, a2, a3, a4] zs S T ([102, 98] : List UInt8) 0 0 0 0 false = if fitsP ({ data := #[102, 98] } : ByteArray) [a0, a1, a2, a3, a4] S T zs then 0 else 22 := by
  have e1 : textP ({ data := #[102, 98] } : ByteArray) sby S = (S == 0) := by unfold textP; rw [show Lib.indexAny ({ data := #[102, 98] } : ByteArray).data.toList sby.data.toList = -1 from by decide]; rfl
  have e2 : textP ({ data := #[102, 98] } : ByteArray) tee T = (T == 0) := by unfold textP; rw [show Lib.indexAny ({ data := #[102, 98] } : ByteArray).data.toList tee.data.toList = -1 from by decide]; rfl
  have e3 : listP ({ data := #[102, 98] } : ByteArray) zs = (zs.length == 0) := by unfold listP; rw [show Lib.indexAny ({ data := #[102, 98] } : ByteArray).data.toList lrip.data.toList = -1 from by decide]; rfl
  have e4 : nums ({ data := #[102, 98] } : ByteArray).data.toList [a0, a1, a2, a3, a4] = (if takesP 102 a0 then (if takesP 98 a1 then (!([a2, a3, a4].any (· != 0))) else false) else false) := by simp [nums]
  unfold fitsP
  rw [e1, e2, e3, e4]
  simp only [refGo, refEnd, pairsP]
  simp only [List.any_cons, List.any_nil, List.drop_succ_cons, List.drop_zero, List.getD_cons_zero, List.getD_cons_succ]
  simp
  all_goals grind
theorem shape29 (a0 a1 a2 a3 a4 : Int) (S T : Nat) (zs : List Int) : refGo [a0, a1, a2, a3, a4] zs S T ([102, 107] : List UInt8) 0 0 0 0 false = if fitsP ({ data := #[102, 107] } : ByteArray) [a0, a1, a2, a3, a4] S T zs then 0 else 22 := by
  have e1 : textP ({ data := #[102, 107] } : ByteArray) sby S = (S == 0) := by unfold textP; rw [show Lib.indexAny ({ data := #[102, 107] } : ByteArray).data.toList sby.data.toList = -1 from by decide]; rfl
  have e2 : textP ({ data := #[102, 107] } : ByteArray) tee T = (T == 0) := by unfold textP; rw [show Lib.indexAny ({ data := #[102, 107] } : ByteArray).data.toList tee.data.toList = -1 from by decide]; rfl
  have e3 : listP ({ data := #[102, 107] } : ByteArray) zs = (zs.length == 0) := by unfold listP; rw [show Lib.indexAny ({ data := #[102, 107] } : ByteArray).data.toList lrip.data.toList = -1 from by decide]; rfl
  have e4 : nums ({ data := #[102, 107] } : ByteArray).data.toList [a0, a1, a2, a3, a4] = (if takesP 102 a0 then (if takesP 107 a1 then (!([a2, a3, a4].any (· != 0))) else false) else false) := by simp [nums]
  unfold fitsP
  rw [e1, e2, e3, e4]
  simp only [refGo, refEnd, pairsP]
  simp only [List.any_cons, List.any_nil, List.drop_succ_cons, List.drop_zero, List.getD_cons_zero, List.getD_cons_succ]
  simp
  all_goals grind
theorem shape30 (a0 a1 a2 a3 a4 : Int) (S T : Nat) (zs : List Int) : refGo [a0, a1, a2, a3, a4] zs S T ([102, 104] : List UInt8) 0 0 0 0 false = if fitsP ({ data := #[102, 104] } : ByteArray) [a0, a1, a2, a3, a4] S T zs then 0 else 22 := by
  have e1 : textP ({ data := #[102, 104] } : ByteArray) sby S = (S == 0) := by unfold textP; rw [show Lib.indexAny ({ data := #[102, 104] } : ByteArray).data.toList sby.data.toList = -1 from by decide]; rfl
  have e2 : textP ({ data := #[102, 104] } : ByteArray) tee T = (T == 0) := by unfold textP; rw [show Lib.indexAny ({ data := #[102, 104] } : ByteArray).data.toList tee.data.toList = -1 from by decide]; rfl
  have e3 : listP ({ data := #[102, 104] } : ByteArray) zs = (zs.length == 0) := by unfold listP; rw [show Lib.indexAny ({ data := #[102, 104] } : ByteArray).data.toList lrip.data.toList = -1 from by decide]; rfl
  have e4 : nums ({ data := #[102, 104] } : ByteArray).data.toList [a0, a1, a2, a3, a4] = (if takesP 102 a0 then (if takesP 104 a1 then (!([a2, a3, a4].any (· != 0))) else false) else false) := by simp [nums]
  unfold fitsP
  rw [e1, e2, e3, e4]
  simp only [refGo, refEnd, pairsP]
  simp only [List.any_cons, List.any_nil, List.drop_succ_cons, List.drop_zero, List.getD_cons_zero, List.getD_cons_succ]
  simp
  all_goals grind
theorem shape31 (a0 a1 a2 a3 a4 : Int) (S T : Nat) (zs : List Int) : refGo [a0, a1, a2, a3, a4] zs S T ([102, 66, 76] : List UInt8) 0 0 0 0 false = if fitsP ({ data := #[102, 66, 76] } : ByteArray) [a0, a1, a2, a3, a4] S T zs then 0 else 22 := by
  have e1 : textP ({ data := #[102, 66, 76] } : ByteArray) sby S = decide (S ≤ 256) := by unfold textP; rw [show Lib.indexAny ({ data := #[102, 66, 76] } : ByteArray).data.toList sby.data.toList = 1 from by decide]; rfl
  have e2 : textP ({ data := #[102, 66, 76] } : ByteArray) tee T = (T == 0) := by unfold textP; rw [show Lib.indexAny ({ data := #[102, 66, 76] } : ByteArray).data.toList tee.data.toList = -1 from by decide]; rfl
  have e3 : listP ({ data := #[102, 66, 76] } : ByteArray) zs = decide (zs.length ≤ 4) := by unfold listP; rw [show Lib.indexAny ({ data := #[102, 66, 76] } : ByteArray).data.toList lrip.data.toList = 2 from by decide]; rfl
  have e4 : nums ({ data := #[102, 66, 76] } : ByteArray).data.toList [a0, a1, a2, a3, a4] = (if takesP 102 a0 then (!([a1, a2, a3, a4].any (· != 0))) else false) := by simp [nums]
  unfold fitsP
  rw [e1, e2, e3, e4]
  simp only [refGo, refEnd, pairsP]
  simp only [List.any_cons, List.any_nil, List.drop_succ_cons, List.drop_zero, List.getD_cons_zero, List.getD_cons_succ]
  simp
  all_goals grind
theorem shape32 (a0 a1 a2 a3 a4 : Int) (S T : Nat) (zs : List Int) : refGo [a0, a1, a2, a3, a4] zs S T ([102, 110, 109] : List UInt8) 0 0 0 0 false = if fitsP ({ data := #[102, 110, 109] } : ByteArray) [a0, a1, a2, a3, a4] S T zs then 0 else 22 := by
  have e1 : textP ({ data := #[102, 110, 109] } : ByteArray) sby S = (S == 0) := by unfold textP; rw [show Lib.indexAny ({ data := #[102, 110, 109] } : ByteArray).data.toList sby.data.toList = -1 from by decide]; rfl
  have e2 : textP ({ data := #[102, 110, 109] } : ByteArray) tee T = (T == 0) := by unfold textP; rw [show Lib.indexAny ({ data := #[102, 110, 109] } : ByteArray).data.toList tee.data.toList = -1 from by decide]; rfl
  have e3 : listP ({ data := #[102, 110, 109] } : ByteArray) zs = (zs.length == 0) := by unfold listP; rw [show Lib.indexAny ({ data := #[102, 110, 109] } : ByteArray).data.toList lrip.data.toList = -1 from by decide]; rfl
  have e4 : nums ({ data := #[102, 110, 109] } : ByteArray).data.toList [a0, a1, a2, a3, a4] = (if takesP 102 a0 then (if takesP 110 a1 then (if takesP 109 a2 then (!([a3, a4].any (· != 0))) else false) else false) else false) := by simp [nums]
  unfold fitsP
  rw [e1, e2, e3, e4]
  simp only [refGo, refEnd, pairsP]
  simp only [List.any_cons, List.any_nil, List.drop_succ_cons, List.drop_zero, List.getD_cons_zero, List.getD_cons_succ]
  simp
  all_goals grind
theorem shape33 (a0 a1 a2 a3 a4 : Int) (S T : Nat) (zs : List Int) : refGo [a0, a1, a2, a3, a4] zs S T ([117, 80] : List UInt8) 0 0 0 0 false = if fitsP ({ data := #[117, 80] } : ByteArray) [a0, a1, a2, a3, a4] S T zs then 0 else 22 := by
  have e1 : textP ({ data := #[117, 80] } : ByteArray) sby S = (S == 0) := by unfold textP; rw [show Lib.indexAny ({ data := #[117, 80] } : ByteArray).data.toList sby.data.toList = -1 from by decide]; rfl
  have e2 : textP ({ data := #[117, 80] } : ByteArray) tee T = (T == 0) := by unfold textP; rw [show Lib.indexAny ({ data := #[117, 80] } : ByteArray).data.toList tee.data.toList = -1 from by decide]; rfl
  have e3 : listP ({ data := #[117, 80] } : ByteArray) zs = pairsP zs := by unfold listP; rw [show Lib.indexAny ({ data := #[117, 80] } : ByteArray).data.toList lrip.data.toList = 1 from by decide]; rfl
  have e4 : nums ({ data := #[117, 80] } : ByteArray).data.toList [a0, a1, a2, a3, a4] = (if takesP 117 a0 then (!([a1, a2, a3, a4].any (· != 0))) else false) := by simp [nums]
  unfold fitsP
  rw [e1, e2, e3, e4]
  simp only [refGo, refEnd, pairsP]
  simp only [List.any_cons, List.any_nil, List.drop_succ_cons, List.drop_zero, List.getD_cons_zero, List.getD_cons_succ]
  simp
  all_goals grind
theorem shape34 (a0 a1 a2 a3 a4 : Int) (S T : Nat) (zs : List Int) : refGo [a0, a1, a2, a3, a4] zs S T ([102, 115] : List UInt8) 0 0 0 0 false = if fitsP ({ data := #[102, 115] } : ByteArray) [a0, a1, a2, a3, a4] S T zs then 0 else 22 := by
  have e1 : textP ({ data := #[102, 115] } : ByteArray) sby S = (S == 0) := by unfold textP; rw [show Lib.indexAny ({ data := #[102, 115] } : ByteArray).data.toList sby.data.toList = -1 from by decide]; rfl
  have e2 : textP ({ data := #[102, 115] } : ByteArray) tee T = (T == 0) := by unfold textP; rw [show Lib.indexAny ({ data := #[102, 115] } : ByteArray).data.toList tee.data.toList = -1 from by decide]; rfl
  have e3 : listP ({ data := #[102, 115] } : ByteArray) zs = (zs.length == 0) := by unfold listP; rw [show Lib.indexAny ({ data := #[102, 115] } : ByteArray).data.toList lrip.data.toList = -1 from by decide]; rfl
  have e4 : nums ({ data := #[102, 115] } : ByteArray).data.toList [a0, a1, a2, a3, a4] = (if takesP 102 a0 then (if takesP 115 a1 then (!([a2, a3, a4].any (· != 0))) else false) else false) := by simp [nums]
  unfold fitsP
  rw [e1, e2, e3, e4]
  simp only [refGo, refEnd, pairsP]
  simp only [List.any_cons, List.any_nil, List.drop_succ_cons, List.drop_zero, List.getD_cons_zero, List.getD_cons_succ]
  simp
  all_goals grind
theorem shape35 (a0 a1 a2 a3 a4 : Int) (S T : Nat) (zs : List Int) : refGo [a0, a1, a2, a3, a4] zs S T ([102, 117] : List UInt8) 0 0 0 0 false = if fitsP ({ data := #[102, 117] } : ByteArray) [a0, a1, a2, a3, a4] S T zs then 0 else 22 := by
  have e1 : textP ({ data := #[102, 117] } : ByteArray) sby S = (S == 0) := by unfold textP; rw [show Lib.indexAny ({ data := #[102, 117] } : ByteArray).data.toList sby.data.toList = -1 from by decide]; rfl
  have e2 : textP ({ data := #[102, 117] } : ByteArray) tee T = (T == 0) := by unfold textP; rw [show Lib.indexAny ({ data := #[102, 117] } : ByteArray).data.toList tee.data.toList = -1 from by decide]; rfl
  have e3 : listP ({ data := #[102, 117] } : ByteArray) zs = (zs.length == 0) := by unfold listP; rw [show Lib.indexAny ({ data := #[102, 117] } : ByteArray).data.toList lrip.data.toList = -1 from by decide]; rfl
  have e4 : nums ({ data := #[102, 117] } : ByteArray).data.toList [a0, a1, a2, a3, a4] = (if takesP 102 a0 then (if takesP 117 a1 then (!([a2, a3, a4].any (· != 0))) else false) else false) := by simp [nums]
  unfold fitsP
  rw [e1, e2, e3, e4]
  simp only [refGo, refEnd, pairsP]
  simp only [List.any_cons, List.any_nil, List.drop_succ_cons, List.drop_zero, List.getD_cons_zero, List.getD_cons_succ]
  simp
  all_goals grind
theorem shape36 (a0 a1 a2 a3 a4 : Int) (S T : Nat) (zs : List Int) : refGo [a0, a1, a2, a3, a4] zs S T ([102, 82] : List UInt8) 0 0 0 0 false = if fitsP ({ data := #[102, 82] } : ByteArray) [a0, a1, a2, a3, a4] S T zs then 0 else 22 := by
  have e1 : textP ({ data := #[102, 82] } : ByteArray) sby S = (S == 0) := by unfold textP; rw [show Lib.indexAny ({ data := #[102, 82] } : ByteArray).data.toList sby.data.toList = -1 from by decide]; rfl
  have e2 : textP ({ data := #[102, 82] } : ByteArray) tee T = (T == 0) := by unfold textP; rw [show Lib.indexAny ({ data := #[102, 82] } : ByteArray).data.toList tee.data.toList = -1 from by decide]; rfl
  have e3 : listP ({ data := #[102, 82] } : ByteArray) zs = (zs.length == 2) := by unfold listP; rw [show Lib.indexAny ({ data := #[102, 82] } : ByteArray).data.toList lrip.data.toList = 1 from by decide]; rfl
  have e4 : nums ({ data := #[102, 82] } : ByteArray).data.toList [a0, a1, a2, a3, a4] = (if takesP 102 a0 then (!([a1, a2, a3, a4].any (· != 0))) else false) := by simp [nums]
  unfold fitsP
  rw [e1, e2, e3, e4]
  simp only [refGo, refEnd, pairsP]
  simp only [List.any_cons, List.any_nil, List.drop_succ_cons, List.drop_zero, List.getD_cons_zero, List.getD_cons_succ]
  simp
  all_goals grind
theorem shape37 (a0 a1 a2 a3 a4 : Int) (S T : Nat) (zs : List Int) : refGo [a0, a1, a2, a3, a4] zs S T ([102, 73] : List UInt8) 0 0 0 0 false = if fitsP ({ data := #[102, 73] } : ByteArray) [a0, a1, a2, a3, a4] S T zs then 0 else 22 := by
  have e1 : textP ({ data := #[102, 73] } : ByteArray) sby S = (S == 0) := by unfold textP; rw [show Lib.indexAny ({ data := #[102, 73] } : ByteArray).data.toList sby.data.toList = -1 from by decide]; rfl
  have e2 : textP ({ data := #[102, 73] } : ByteArray) tee T = (T == 0) := by unfold textP; rw [show Lib.indexAny ({ data := #[102, 73] } : ByteArray).data.toList tee.data.toList = -1 from by decide]; rfl
  have e3 : listP ({ data := #[102, 73] } : ByteArray) zs = decide (zs.length ≤ 64) := by unfold listP; rw [show Lib.indexAny ({ data := #[102, 73] } : ByteArray).data.toList lrip.data.toList = 1 from by decide]; rfl
  have e4 : nums ({ data := #[102, 73] } : ByteArray).data.toList [a0, a1, a2, a3, a4] = (if takesP 102 a0 then (!([a1, a2, a3, a4].any (· != 0))) else false) := by simp [nums]
  unfold fitsP
  rw [e1, e2, e3, e4]
  simp only [refGo, refEnd, pairsP]
  simp only [List.any_cons, List.any_nil, List.drop_succ_cons, List.drop_zero, List.getD_cons_zero, List.getD_cons_succ]
  simp
  all_goals grind
theorem fits_eq (n : Nat) (h1 : 1 ≤ n) (h2 : n ≤ 64) (a0 a1 a2 a3 a4 : Int) (S T : Nat) (zs : List Int) : refGo [a0, a1, a2, a3, a4] zs S T (shapeOf n).data.toList 0 0 0 0 false = if fitsP (shapeOf n) [a0, a1, a2, a3, a4] S T zs then 0 else 22 := by
  match n, h1, h2 with
  | 1, _, _ => rw [row1.2.1]; exact shape0 a0 a1 a2 a3 a4 S T zs
  | 2, _, _ => rw [row2.2.1]; exact shape1 a0 a1 a2 a3 a4 S T zs
  | 3, _, _ => rw [row3.2.1]; exact shape2 a0 a1 a2 a3 a4 S T zs
  | 4, _, _ => rw [row4.2.1]; exact shape3 a0 a1 a2 a3 a4 S T zs
  | 5, _, _ => rw [row5.2.1]; exact shape4 a0 a1 a2 a3 a4 S T zs
  | 6, _, _ => rw [row6.2.1]; exact shape5 a0 a1 a2 a3 a4 S T zs
  | 7, _, _ => rw [row7.2.1]; exact shape6 a0 a1 a2 a3 a4 S T zs
  | 8, _, _ => rw [row8.2.1]; exact shape7 a0 a1 a2 a3 a4 S T zs
  | 9, _, _ => rw [row9.2.1]; exact shape8 a0 a1 a2 a3 a4 S T zs
  | 10, _, _ => rw [row10.2.1]; exact shape8 a0 a1 a2 a3 a4 S T zs
  | 11, _, _ => rw [row11.2.1]; exact shape5 a0 a1 a2 a3 a4 S T zs
  | 12, _, _ => rw [row12.2.1]; exact shape8 a0 a1 a2 a3 a4 S T zs
  | 13, _, _ => rw [row13.2.1]; exact shape8 a0 a1 a2 a3 a4 S T zs
  | 14, _, _ => rw [row14.2.1]; exact shape1 a0 a1 a2 a3 a4 S T zs
  | 15, _, _ => rw [row15.2.1]; exact shape1 a0 a1 a2 a3 a4 S T zs
  | 16, _, _ => rw [row16.2.1]; exact shape9 a0 a1 a2 a3 a4 S T zs
  | 17, _, _ => rw [row17.2.1]; exact shape5 a0 a1 a2 a3 a4 S T zs
  | 18, _, _ => rw [row18.2.1]; exact shape10 a0 a1 a2 a3 a4 S T zs
  | 19, _, _ => rw [row19.2.1]; exact shape11 a0 a1 a2 a3 a4 S T zs
  | 20, _, _ => rw [row20.2.1]; exact shape12 a0 a1 a2 a3 a4 S T zs
  | 21, _, _ => rw [row21.2.1]; exact shape12 a0 a1 a2 a3 a4 S T zs
  | 22, _, _ => rw [row22.2.1]; exact shape13 a0 a1 a2 a3 a4 S T zs
  | 23, _, _ => rw [row23.2.1]; exact shape8 a0 a1 a2 a3 a4 S T zs
  | 24, _, _ => rw [row24.2.1]; exact shape7 a0 a1 a2 a3 a4 S T zs
  | 25, _, _ => rw [row25.2.1]; exact shape14 a0 a1 a2 a3 a4 S T zs
  | 26, _, _ => rw [row26.2.1]; exact shape15 a0 a1 a2 a3 a4 S T zs
  | 27, _, _ => rw [row27.2.1]; exact shape5 a0 a1 a2 a3 a4 S T zs
  | 28, _, _ => rw [row28.2.1]; exact shape16 a0 a1 a2 a3 a4 S T zs
  | 29, _, _ => rw [row29.2.1]; exact shape5 a0 a1 a2 a3 a4 S T zs
  | 30, _, _ => rw [row30.2.1]; exact shape17 a0 a1 a2 a3 a4 S T zs
  | 31, _, _ => rw [row31.2.1]; exact shape18 a0 a1 a2 a3 a4 S T zs
  | 32, _, _ => rw [row32.2.1]; exact shape19 a0 a1 a2 a3 a4 S T zs
  | 33, _, _ => rw [row33.2.1]; exact shape20 a0 a1 a2 a3 a4 S T zs
  | 34, _, _ => rw [row34.2.1]; exact shape21 a0 a1 a2 a3 a4 S T zs
  | 35, _, _ => rw [row35.2.1]; exact shape22 a0 a1 a2 a3 a4 S T zs
  | 36, _, _ => rw [row36.2.1]; exact shape23 a0 a1 a2 a3 a4 S T zs
  | 37, _, _ => rw [row37.2.1]; exact shape24 a0 a1 a2 a3 a4 S T zs
  | 38, _, _ => rw [row38.2.1]; exact shape25 a0 a1 a2 a3 a4 S T zs
  | 39, _, _ => rw [row39.2.1]; exact shape21 a0 a1 a2 a3 a4 S T zs
  | 40, _, _ => rw [row40.2.1]; exact shape22 a0 a1 a2 a3 a4 S T zs
  | 41, _, _ => rw [row41.2.1]; exact shape11 a0 a1 a2 a3 a4 S T zs
  | 42, _, _ => rw [row42.2.1]; exact shape11 a0 a1 a2 a3 a4 S T zs
  | 43, _, _ => rw [row43.2.1]; exact shape26 a0 a1 a2 a3 a4 S T zs
  | 44, _, _ => rw [row44.2.1]; exact shape27 a0 a1 a2 a3 a4 S T zs
  | 45, _, _ => rw [row45.2.1]; exact shape28 a0 a1 a2 a3 a4 S T zs
  | 46, _, _ => rw [row46.2.1]; exact shape26 a0 a1 a2 a3 a4 S T zs
  | 47, _, _ => rw [row47.2.1]; exact shape27 a0 a1 a2 a3 a4 S T zs
  | 48, _, _ => rw [row48.2.1]; exact shape29 a0 a1 a2 a3 a4 S T zs
  | 49, _, _ => rw [row49.2.1]; exact shape30 a0 a1 a2 a3 a4 S T zs
  | 50, _, _ => rw [row50.2.1]; exact shape31 a0 a1 a2 a3 a4 S T zs
  | 51, _, _ => rw [row51.2.1]; exact shape32 a0 a1 a2 a3 a4 S T zs
  | 52, _, _ => rw [row52.2.1]; exact shape33 a0 a1 a2 a3 a4 S T zs
  | 53, _, _ => rw [row53.2.1]; exact shape1 a0 a1 a2 a3 a4 S T zs
  | 54, _, _ => rw [row54.2.1]; exact shape5 a0 a1 a2 a3 a4 S T zs
  | 55, _, _ => rw [row55.2.1]; exact shape34 a0 a1 a2 a3 a4 S T zs
  | 56, _, _ => rw [row56.2.1]; exact shape35 a0 a1 a2 a3 a4 S T zs
  | 57, _, _ => rw [row57.2.1]; exact shape1 a0 a1 a2 a3 a4 S T zs
  | 58, _, _ => rw [row58.2.1]; exact shape1 a0 a1 a2 a3 a4 S T zs
  | 59, _, _ => rw [row59.2.1]; exact shape36 a0 a1 a2 a3 a4 S T zs
  | 60, _, _ => rw [row60.2.1]; exact shape5 a0 a1 a2 a3 a4 S T zs
  | 61, _, _ => rw [row61.2.1]; exact shape37 a0 a1 a2 a3 a4 S T zs
  | 62, _, _ => rw [row62.2.1]; exact shape5 a0 a1 a2 a3 a4 S T zs
  | 63, _, _ => rw [row63.2.1]; exact shape10 a0 a1 a2 a3 a4 S T zs
  | 64, _, _ => rw [row64.2.1]; exact shape5 a0 a1 a2 a3 a4 S T zs
  | n + 65, _, h => exact absurd h (by omega)
/-- What the reference answers a request is what the program answers it. -/
theorem check_eq (no a0 a1 a2 a3 a4 : Int) (S T : Nat) (zs : List Int) : rcheckP no [a0, a1, a2, a3, a4] S T zs = checkP no [a0, a1, a2, a3, a4] S T zs := by
  unfold rcheckP checkP
  by_cases h : no < 1 ∨ 64 < no
  · rw [if_pos h, if_pos h]
  · rw [if_neg h, if_neg h]; exact fits_eq no.toNat (by omega) (by omega) a0 a1 a2 a3 a4 S T zs
end Go.Proofs.YtmjlfknkembhnaaDoor
