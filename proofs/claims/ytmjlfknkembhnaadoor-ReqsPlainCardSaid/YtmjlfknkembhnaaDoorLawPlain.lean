/- ReqsPlain: what Plain gives reads as the request does where the reference's Check answers none, else as its number alone. Conditions: none. -/
import Derived.Test.YtmjlfknkembhnaaDoorSame
import Derived.Test.YtmjlfknkembhnaaDoorCards
import Derived.Test.YtmjlfknkembhnaaDoorTie
namespace Go.Proofs.YtmjlfknkembhnaaDoor.lawPlain
open Go Go.ChangeShapes Go.WideShapes Go.ChangeAt Go.RowKit
set_option maxRecDepth 100000 in
set_option maxHeartbeats 4000000 in
theorem walk (no a0 a1 a2 a3 a4 : Int) (s t : ByteArray) (A : Option Addr) (zs : List Int) (m c : Nat) (hm : zs.length = m) (hc : m ≤ c) (hs : s.size ≤ 9223372036854775807) (ht : t.size ≤ 9223372036854775807) (w : World) (hG : Gl w) (hI : Ints w A zs) :
    Calls Tryd.prog 6 #[.agg #[.int .i64 no, .int .i64 a0, .int .i64 a1, .int .i64 a2, .int .i64 a3, .int .i64 a4, .string s, .string t, .slice A m c]] w fun e w' => e = .returned (.bool true) ∧ Below w.heap.size w w' := by
  have HG := Lib.hid hG; clear hG
  have HI := Lib.hid hI; clear hI
  have HM := Lib.hid hm; clear hm
  obtain ⟨k, hk⟩ : ∃ k, (zs.take 100).length = k := ⟨_, rfl⟩
  have hkl : k ≤ 100 := by rw [← hk, List.length_take]; omega
  have HK := Lib.hid hk; clear hk
  obtain ⟨R, hR⟩ : ∃ R, checkP no [a0, a1, a2, a3, a4] s.size t.size (zs.take 100) = R := ⟨_, rfl⟩
  have HR := Lib.hid hR; clear hR
  have HC := Lib.hid hc; clear hc
  have HS := Lib.hid hs; clear hs
  have HT := Lib.hid ht; clear ht
  have HKL := Lib.hid hkl; clear hkl
  go_enter Tryd.func6, Tryd.ntmps6
  go_wp2_with fail
  refine (short_m no a0 a1 a2 a3 a4 s t A zs m c k HM.out HC.out HK _ (HI.out.below ((Below.refl _ w).alloc (Nat.le_refl _) _))).mono ?_
  rintro e w1 ⟨A', c', rfl, hI', hB, hA'0⟩
  have hA' := Lib.hid hA'0; clear hA'0
  have hB1 : Below w.heap.size w w1 := ((Below.refl _ w).alloc (Nat.le_refl _) _).trans (hB.mono (by simp <;> omega))
  have hbx : ∀ j, w1.cell? ⟨w.heap.size, j, none⟩ = (#[Value.int .i64 no, .int .i64 a0, .int .i64 a1, .int .i64 a2, .int .i64 a3, .int .i64 a4, .string s, .string t, .slice A m c] : Array Value)[j]? := fun j => by
    rw [hB.cell (p := ⟨w.heap.size, j, none⟩) (by simp)]
    simp [go_sem]
  have hfx : ∀ j, w1.frozen? ⟨w.heap.size, j, none⟩ = false := fun j => by
    rw [hB.frozen (p := ⟨w.heap.size, j, none⟩) (by simp)]
    simp [go_sem]
  have hlt : w.heap.size < w1.heap.size := by have := hB.size; simp at this; omega
  clear hB
  go_wp2_with fail
  obtain ⟨W1, hW1⟩ : ∃ W1, set9 w1 w.heap.size (.int .i64 no) (.int .i64 a0) (.int .i64 a1) (.int .i64 a2) (.int .i64 a3) (.int .i64 a4) (.string s) (.string t) (.slice A' k c') = W1 := ⟨_, rfl⟩
  have hW1' := hW1
  unfold set9 at hW1'
  rw [hW1']
  clear hW1'
  obtain ⟨q0, q1, q2, q3, q4, q5, q6, q7, q8⟩ := set9_cells (.int .i64 no) (.int .i64 a0) (.int .i64 a1) (.int .i64 a2) (.int .i64 a3) (.int .i64 a4) (.string s) (.string t) (.slice A' k c') (hbx 0) (hbx 1) (hbx 2) (hbx 3) (hbx 4) (hbx 5) (hbx 6) (hbx 7) (hbx 8)
  have hBW : Below w.heap.size w W1 := by rw [← hW1]; exact below_set9 hB1 (Nat.le_refl _) _ _ _ _ _ _ _ _ _
  have hIW : Ints W1 A' (zs.take 100) := by
    rw [← hW1]
    have far1 : ∀ b, A'.map Addr.block = some b → w.heap.size ≠ b := fun b hb => by have := hA'.out b hb; simp at this; omega
    exact ints_set9 hI'.out far1 _ _ _ _ _ _ _ _ _
  have hsz : w.heap.size < W1.heap.size := by rw [← hW1]; simpa [set9] using hlt
  rw [hW1] at q0 q1 q2 q3 q4 q5 q6 q7 q8
  clear hbx hfx hlt hB1 hI' hW1 w1 hA'
  have HIW := Lib.hid hIW; clear hIW
  have HBW := Lib.hid hBW; clear hBW
  have HSZ := Lib.hid hsz; clear hsz
  have HGW : Hid (Gl W1) := Lib.hid ((HG.out).below HBW.out (HG.out.2.2))
  refine (own_m no a0 a1 a2 a3 a4 s t A' _ k c' HK.out HKL.out W1 HIW.out).mono ?_
  rintro e w2 ⟨A2, c2, rfl, hI2, hb2, -⟩
  go_wp2_with fail
  refine (plain_m HR HS.out HT.out HK HKL.out A2 c2 w2 (HGW.out.later hb2) hI2.out).mono ?_
  rintro e w3 hP
  rcases hP with ⟨hR0, hown⟩ | ⟨hR0, hown⟩
  · obtain ⟨A3, c3, rfl, hI3, hb3, -⟩ := hown
    subst hR0
    have hsz1 := HSZ.out
    have hb13 : Below W1.heap.size W1 w3 := hb2.trans (hb3.mono hb2.size)
    have hk3 : ∀ j, w3.cell? ⟨w.heap.size, j, none⟩ = W1.cell? ⟨w.heap.size, j, none⟩ := fun j => hb13.cell (p := ⟨w.heap.size, j, none⟩) hsz1
    have hk3' : ∀ j, (w3.alloc (.cells #[Value.int .i64 no, .int .i64 a0, .int .i64 a1, .int .i64 a2, .int .i64 a3, .int .i64 a4, .string s, .string t, .slice A3 k c3] 25)).cell? ⟨w.heap.size, j, none⟩ = W1.cell? ⟨w.heap.size, j, none⟩ := fun j => (hb13.alloc hb13.size _).cell (p := ⟨w.heap.size, j, none⟩) hsz1
    have s0 := (hk3' 0).trans q0
    have s1 := (hk3' 1).trans q1
    have s2 := (hk3' 2).trans q2
    have s3 := (hk3' 3).trans q3
    have s4 := (hk3' 4).trans q4
    have s5 := (hk3' 5).trans q5
    have s6 := (hk3' 6).trans q6
    have s7 := (hk3' 7).trans q7
    have s8 := (hk3' 8).trans q8
    have r0 := (hk3 0).trans q0
    have r1 := (hk3 1).trans q1
    have r2 := (hk3 2).trans q2
    have r3 := (hk3 3).trans q3
    have r4 := (hk3 4).trans q4
    have r5 := (hk3 5).trans q5
    have r6 := (hk3 6).trans q6
    have r7 := (hk3 7).trans q7
    have r8 := (hk3 8).trans q8
    have hs13 := hb13.size
    have hne : ¬ w.heap.size = w3.heap.size := by omega
    have HB13 := Lib.hid hb13
    clear hk3 hk3' hb13 hb2 hb3 hI2
    go_wp2_with fail
    refine (rCheck_R HR HK HKL.out A' c' _ (HIW.out.below (HB13.out.alloc hs13 _))).mono ?_
    rintro e w4 ⟨rfl, hb4⟩
    have hnew : ∀ j, w4.cell? ⟨w3.heap.size, j, none⟩ = (#[Value.int .i64 no, .int .i64 a0, .int .i64 a1, .int .i64 a2, .int .i64 a3, .int .i64 a4, .string s, .string t, .slice A3 k c3] : Array Value)[j]? := fun j => by
      rw [hb4.cell (p := ⟨w3.heap.size, j, none⟩) (by simp)]; exact World.cell?_alloc_new _ _ _ _
    have hk4 : ∀ j, w4.cell? ⟨w.heap.size, j, none⟩ = W1.cell? ⟨w.heap.size, j, none⟩ := fun j =>
      ((HB13.out.alloc hs13 _).trans (hb4.mono (by simp <;> omega))).cell (p := ⟨w.heap.size, j, none⟩) hsz1
    clear s0 s1 s2 s3 s4 s5 s6 s7 s8 r0 r1 r2 r3 r4 r5 r6 r7 r8
    have HB14 := Lib.hid ((HB13.out.alloc hs13 _).trans (hb4.mono (by simp <;> omega)))
    have hb34 : Below w3.heap.size w3 w4 := (((Below.refl _ w3).alloc (Nat.le_refl _) _).trans (hb4.mono (by simp)))
    have HI4 := Lib.hid (hI3.out.below hb34)
    have r0 := (hk4 0).trans q0
    have r1 := (hk4 1).trans q1
    have r2 := (hk4 2).trans q2
    have r3 := (hk4 3).trans q3
    have r4 := (hk4 4).trans q4
    have r5 := (hk4 5).trans q5
    have r6 := (hk4 6).trans q6
    have r7 := (hk4 7).trans q7
    have r8 := (hk4 8).trans q8
    have n0 := hnew 0
    have n1 := hnew 1
    have n2 := hnew 2
    have n3 := hnew 3
    have n4 := hnew 4
    have n5 := hnew 5
    have n6 := hnew 6
    have n7 := hnew 7
    have n8 := hnew 8
    clear hnew hk4 hb34 hb4
    go_wp2_with fail
    refine (same_m no a0 a1 a2 a3 a4 s t _ k HK HKL.out A3 A' c3 c' w4 HI4.out (HIW.out.below HB14.out)).mono ?_
    rintro e w5 ⟨rfl, hb5⟩
    have HB15 := Lib.hid (HB14.out.trans (hb5.mono HB14.out.size))
    clear hb5
    go_wp2_with fail
    refine (lives_any w5 (HGW.out.later HB15.out)).mono ?_
    rintro e w6 ⟨rfl, hb6⟩
    go_wp2_with fail
    go_ret
    exact ⟨rfl, HBW.out.trans ((HB15.out.trans (hb6.mono HB15.out.size)).mono HBW.out.size)⟩
  · obtain ⟨A3, c3, rfl, hI3, hb3, -⟩ := hown
    have hR1 : (R == 0) = false := by simpa using hR0
    have hsz1 := HSZ.out
    have hb13 : Below W1.heap.size W1 w3 := hb2.trans (hb3.mono hb2.size)
    have hk3 : ∀ j, w3.cell? ⟨w.heap.size, j, none⟩ = W1.cell? ⟨w.heap.size, j, none⟩ := fun j => hb13.cell (p := ⟨w.heap.size, j, none⟩) hsz1
    have hk3' : ∀ j, (w3.alloc (.cells #[Value.int .i64 no, .int .i64 0, .int .i64 0, .int .i64 0, .int .i64 0, .int .i64 0, .string ⟨#[]⟩, .string ⟨#[]⟩, .slice A3 0 c3] 25)).cell? ⟨w.heap.size, j, none⟩ = W1.cell? ⟨w.heap.size, j, none⟩ := fun j => (hb13.alloc hb13.size _).cell (p := ⟨w.heap.size, j, none⟩) hsz1
    have s0 := (hk3' 0).trans q0
    have s1 := (hk3' 1).trans q1
    have s2 := (hk3' 2).trans q2
    have s3 := (hk3' 3).trans q3
    have s4 := (hk3' 4).trans q4
    have s5 := (hk3' 5).trans q5
    have s6 := (hk3' 6).trans q6
    have s7 := (hk3' 7).trans q7
    have s8 := (hk3' 8).trans q8
    have r0 := (hk3 0).trans q0
    have r1 := (hk3 1).trans q1
    have r2 := (hk3 2).trans q2
    have r3 := (hk3 3).trans q3
    have r4 := (hk3 4).trans q4
    have r5 := (hk3 5).trans q5
    have r6 := (hk3 6).trans q6
    have r7 := (hk3 7).trans q7
    have r8 := (hk3 8).trans q8
    have hs13 := hb13.size
    have hne : ¬ w.heap.size = w3.heap.size := by omega
    have HB13 := Lib.hid hb13
    clear hk3 hk3' hb13 hb2 hb3 hI2
    go_wp2_with fail
    refine (rCheck_R HR HK HKL.out A' c' _ (HIW.out.below (HB13.out.alloc hs13 _))).mono ?_
    rintro e w4 ⟨rfl, hb4⟩
    have hnew : ∀ j, w4.cell? ⟨w3.heap.size, j, none⟩ = (#[Value.int .i64 no, .int .i64 0, .int .i64 0, .int .i64 0, .int .i64 0, .int .i64 0, .string ⟨#[]⟩, .string ⟨#[]⟩, .slice A3 0 c3] : Array Value)[j]? := fun j => by
      rw [hb4.cell (p := ⟨w3.heap.size, j, none⟩) (by simp)]; exact World.cell?_alloc_new _ _ _ _
    have hk4 : ∀ j, w4.cell? ⟨w.heap.size, j, none⟩ = W1.cell? ⟨w.heap.size, j, none⟩ := fun j =>
      ((HB13.out.alloc hs13 _).trans (hb4.mono (by simp <;> omega))).cell (p := ⟨w.heap.size, j, none⟩) hsz1
    clear s0 s1 s2 s3 s4 s5 s6 s7 s8 r0 r1 r2 r3 r4 r5 r6 r7 r8
    have HB14 := Lib.hid ((HB13.out.alloc hs13 _).trans (hb4.mono (by simp <;> omega)))
    have hb34 : Below w3.heap.size w3 w4 := (((Below.refl _ w3).alloc (Nat.le_refl _) _).trans (hb4.mono (by simp)))
    have HI4 := Lib.hid (hI3.out.below hb34)
    have r0 := (hk4 0).trans q0
    have r1 := (hk4 1).trans q1
    have r2 := (hk4 2).trans q2
    have r3 := (hk4 3).trans q3
    have r4 := (hk4 4).trans q4
    have r5 := (hk4 5).trans q5
    have r6 := (hk4 6).trans q6
    have r7 := (hk4 7).trans q7
    have r8 := (hk4 8).trans q8
    have n0 := hnew 0
    have n1 := hnew 1
    have n2 := hnew 2
    have n3 := hnew 3
    have n4 := hnew 4
    have n5 := hnew 5
    have n6 := hnew 6
    have n7 := hnew 7
    have n8 := hnew 8
    clear hnew hk4 hb34 hb4
    go_wp2_with fail
    refine (same_m no 0 0 0 0 0 ⟨#[]⟩ ⟨#[]⟩ [] 0 (Lib.hid rfl) (by decide) A3 none c3 0 w4 HI4.out (ints_nil _ _)).mono ?_
    rintro e w5 ⟨rfl, hb5⟩
    have HB15 := Lib.hid (HB14.out.trans (hb5.mono HB14.out.size))
    clear hb5
    go_wp2_with fail
    refine (lives_any w5 (HGW.out.later HB15.out)).mono ?_
    rintro e w6 ⟨rfl, hb6⟩
    go_wp2_with fail
    go_ret
    exact ⟨rfl, HBW.out.trans ((HB15.out.trans (hb6.mono HB15.out.size)).mono HBW.out.size)⟩
set_option maxRecDepth 100000 in
theorem contract (H : Type) (enc : TypeId × Value → H) (W : World) (base : Nat) (args : Array Value) (ds gs : List (DataW H)) (before : List MemPlace)
    (hval : ∀ (j : Nat) t v, Tryd.f6.params[j]? = some t → args[j]? = some v → Value.okWide Tryd.prog W .any base t v)
    (hW : DataW.Whole enc Tryd.prog Tryd.f6.params.toList Rows.reqsPlainSpec.vars false W args.toList ds gs before) (hL : laidMetH Tryd.prog laid4 W) (hsh : W.ShapedOpen Tryd.prog) :
    Calls Tryd.prog 6 args W fun e W' => ∃ v, e = .returned v ∧ Rows.reqsPlainSpec.post enc Tryd.prog Tryd.f6 false true false false W args v W' := by
  have hW' := hW
  obtain ⟨p, q, hA0, hV, rfl, hfz, hnd⟩ := hW
  have hA : DataW.TrodAll enc Tryd.prog W 0 (fun _ => true) true Tryd.f6.params.toList args.toList ds p := hA0
  rw [Tryd.params6] at hA hval
  obtain ⟨v0, vs0, d0, ds0, p0, q0, hargs, rfl, rfl, h0, r0⟩ := trodAll_cons hA
  obtain ⟨rfl, rfl, rfl⟩ := trodAll_nil r0
  obtain rfl : args = #[v0] := by cases args; simp_all
  obtain ⟨rfl, rfl⟩ := trodVars_none hV
  have h0k := h0
  obtain ⟨no, a0, a1, a2, a3, a4, s, t, A, m, c, zs, rfl, hm, hc, hI, hs, ht⟩ := open_req (hval 0 25 v0 rfl rfl) h0
  clear hA0
  simp only [List.append_nil] at hW'
  have hlt : ∀ x ∈ p0, x.block < W.heap.size := fun x hx => hW'.lt x (by simp [hx])
  refine (walk no a0 a1 a2 a3 a4 s t A zs m c hm hc hs ht W (gl_of hL hsh) hI).mono fun e W' ⟨he, hb⟩ => ?_
  subst he
  refine ⟨_, rfl, _, _, _, [], p0 ++ [], [], hW', ?_, ?_, rfl, hb.frame _, fun h => by cases h⟩
  · exact trodAll_cons_mk (shut_bool Tryd.underlying4 _) trodAll_mk0
  · exact trodAll_cons_mk (Below.trod laidOut (by kernel_rfl) (of_decide_eq_true (by kernel_rfl)) h0k hb hlt) trodAll_mk0
theorem reads (os : Os) {H : Type} (enc : TypeId × Value → H) : ∃ places, DataW.whole enc Tryd.prog ((laidWorld os).forCall (fun _ _ => 0) ⟨#[], #[Value.agg #[.int .i64 0, .int .i64 0, .int .i64 0, .int .i64 0, .int .i64 0, .int .i64 0, .string ByteArray.empty, .string ByteArray.empty, .slice none 0 0]], []⟩).memory Tryd.f6.params.toList Rows.reqsPlainSpec.vars false #[Value.agg #[.int .i64 0, .int .i64 0, .int .i64 0, .int .i64 0, .int .i64 0, .int .i64 0, .string ByteArray.empty, .string ByteArray.empty, .slice none 0 0]].toList 8 = some ([.agg [.lit (.int .i64 0), .agg [.lit (.int .i64 0), .lit (.int .i64 0), .lit (.int .i64 0), .lit (.int .i64 0), .lit (.int .i64 0)], .lit (.string []), .lit (.string []), .nil]], [], places) :=
  ⟨[], by kernel_rfl⟩
set_option maxRecDepth 100000 in
theorem lifted (os : Os) (started : os.Started) (H : Type) (enc : TypeId × Value → H) (F : Stop.Interp) :
    ReturnsInHanded {} Tryd.checked os 6 .any ((OpenSpec.ofChange Rows.reqsPlainSpec).preRow enc Tryd.prog Tryd.f6 Rows.reqsPlainRow.domain false Rows.reqsPlainRow.laid) (((OpenSpec.ofChange Rows.reqsPlainSpec).at F).post enc Tryd.prog Tryd.f6 false true false false) := by
  obtain ⟨places, hx⟩ := reads os enc
  refine returnsInHanded_of_row (C := Tryd.checked) (s := OpenSpec.ofChange Rows.reqsPlainSpec) own started (by kernel_rfl) Tryd.func6
    (witness_row_atRef (enc := enc) (C := Tryd.checked) false (laidWorld os) #[Value.agg #[.int .i64 0, .int .i64 0, .int .i64 0, .int .i64 0, .int .i64 0, .int .i64 0, .string ByteArray.empty, .string ByteArray.empty, .slice none 0 0]] rfl (by kernel_rfl) (by kernel_rfl) (by kernel_rfl)
      (OpenSpec.preRow_of_cond 8 hx (by kernel_rfl) (fun k hk => by cases hk) (by kernel_rfl) (laid_met os _))) ?_
  intro W base args ds gs before hval hW _ _ _ hL hsh _
  exact contract H enc W base args ds gs before hval hW hL hsh
theorem said : Rows.ReqsPlainSaid :=
  OpenClaim.holds_of_cond 6 Tryd.f6 rfl rfl rfl rfl rfl rfl rfl ⟨rfl, rfl, rfl, rfl, rfl⟩ rfl rfl rfl rfl rfl (by kernel_rfl) Tryd.func6 (by kernel_rfl)
    (of_decide_eq_true (by kernel_rfl)) (by unfold Func.isWrapper; first | (rw [if_pos (by decide +kernel)]; kernel_rfl) | (rw [if_neg (by decide +kernel)]; exact ⟨rfl, rfl⟩))
    (fun os started H enc _ F => by rw [OpenClaim.pre_eq_preRow]; exact lifted os started H enc F)
theorem plain (f : FuncId) (fn : Func) (hf : Tryd.pinned.checked.prog.funcNamed "purlieu/purlieulaw16.ReqsPlain" = some f) (hfn : Tryd.pinned.checked.prog.funcs[f]? = some fn) :
    false = Tryd.pinned.checked.prog.looks [] ∧ ∀ (j : Nat) t, fn.params[j]? = some t → Tryd.pinned.checked.prog.wantsStandIn t = false := by
  obtain rfl : f = 6 := Option.some.inj ((show Tryd.prog.funcNamed "purlieu/purlieulaw16.ReqsPlain" = some 6 by kernel_rfl).symm.trans hf) |>.symm
  obtain rfl : fn = Tryd.f6 := (Option.some.inj (Tryd.func6.symm.trans hfn)).symm
  refine ⟨by kernel_rfl, fun j t ht => ?_⟩
  rw [Tryd.params6] at ht
  have := Array.mem_of_getElem? ht
  simp only [List.mem_toArray, List.mem_cons, List.not_mem_nil, or_false] at this
  subst this
  exact (show Tryd.prog.wantsStandIn 25 = false by kernel_rfl)
/-- The card. -/
theorem card : Rows.ReqsPlainCardSaid :=
  Claim7.holds_tied_plain_at .later [] _ _ _ _ said (fun _ h => by cases h) (by kernel_rfl) (fun _ h => by cases h) reqsPlain_row_tie rfl ⟨rfl, rfl⟩ (by kernel_rfl) rfl plain (by kernel_rfl)
end Go.Proofs.YtmjlfknkembhnaaDoor.lawPlain
