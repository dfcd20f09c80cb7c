/- ReqsGates: the program's Gate answers what the reference's answers. Conditions: none. -/
import Derived.Test.YtmjlfknkembhnaaDoorPGate
import Derived.Test.YtmjlfknkembhnaaDoorCards
import Derived.Test.YtmjlfknkembhnaaDoorTie
namespace Go.Proofs.YtmjlfknkembhnaaDoor.lawGates
open Go Go.ChangeShapes Go.WideShapes Go.ChangeAt Go.RowKit
theorem gate_V {no a0 a1 a2 a3 a4 : Int} {s t : ByteArray} {zs : List Int} {m : Nat} {R V : Int} {cap : Bool} (hV : Hid (rgateV no a0 a1 R cap = V)) (hs : s.size ≤ 9223372036854775807) (ht : t.size ≤ 9223372036854775807) (hR : Hid (checkP no [a0, a1, a2, a3, a4] s.size t.size zs = R)) (hm : Hid (zs.length = m)) (hl : m ≤ 100) (A : Option Addr) (c : Nat) (w : World) (hG : Gl w) (hI : Ints w A zs) :
    Calls Tryd.prog 18 #[.agg #[.int .i64 no, .int .i64 a0, .int .i64 a1, .int .i64 a2, .int .i64 a3, .int .i64 a4, .string s, .string t, .slice A m c], .bool cap] w fun e w' => e = .returned (.int .i64 V) ∧ Below w.heap.size w w' := by
  have h := gate_any no a0 a1 a2 a3 a4 s t hs ht A zs m c R cap hR hm hl w hG hI
  rw [hV.out] at h; exact h
theorem rgate_V {no a0 a1 a2 a3 a4 : Int} {s t : ByteArray} {zs : List Int} {m : Nat} {R V : Int} {cap : Bool} (hV : Hid (rgateV no a0 a1 R cap = V)) (hR : Hid (checkP no [a0, a1, a2, a3, a4] s.size t.size zs = R)) (hm : Hid (zs.length = m)) (hl : m ≤ 100) (A : Option Addr) (c : Nat) (w : World) (hI : Ints w A zs) :
    Calls Tryd.prog 19 #[.agg #[.int .i64 no, .int .i64 a0, .int .i64 a1, .int .i64 a2, .int .i64 a3, .int .i64 a4, .string s, .string t, .slice A m c], .bool cap] w fun e w' => e = .returned (.int .i64 V) ∧ Below w.heap.size w w' := by
  have h := rgate_any no a0 a1 a2 a3 a4 s t A zs m c R cap hR hm hl w hI
  rw [hV.out] at h; exact h
/-- What the region keeps: the world is below as it was, the box holds the request. -/
def Box (W1 : World) (B : Nat) (no a0 a1 a2 a3 a4 : Int) (s t : ByteArray) (A : Option Addr) (m c : Nat) (w' : World) : Prop :=
  Below W1.heap.size W1 w' ∧ w'.cell? ⟨B, 0, none⟩ = some (.int .i64 no) ∧ w'.cell? ⟨B, 1, none⟩ = some (.int .i64 a0) ∧ w'.cell? ⟨B, 2, none⟩ = some (.int .i64 a1) ∧ w'.cell? ⟨B, 3, none⟩ = some (.int .i64 a2) ∧ w'.cell? ⟨B, 4, none⟩ = some (.int .i64 a3) ∧
    w'.cell? ⟨B, 5, none⟩ = some (.int .i64 a4) ∧ w'.cell? ⟨B, 6, none⟩ = some (.string s) ∧ w'.cell? ⟨B, 7, none⟩ = some (.string t) ∧ w'.cell? ⟨B, 8, none⟩ = some (.slice A m c)
theorem Box.step {W1 : World} {B : Nat} {no a0 a1 a2 a3 a4 : Int} {s t : ByteArray} {A : Option Addr} {m c : Nat} {w w' : World} (hB : B < W1.heap.size) (h : Box W1 B no a0 a1 a2 a3 a4 s t A m c w) (hb : Below w.heap.size w w') : Box W1 B no a0 a1 a2 a3 a4 s t A m c w' := by
  obtain ⟨h0, h1, h2, h3, h4, h5, h6, h7, h8, h9⟩ := h
  have hs := h0.size
  have hc : ∀ j, w'.cell? ⟨B, j, none⟩ = w.cell? ⟨B, j, none⟩ := fun j => hb.cell (p := ⟨B, j, none⟩) (Nat.lt_of_lt_of_le hB hs)
  exact ⟨h0.trans (hb.mono hs), by rw [hc]; exact h1, by rw [hc]; exact h2, by rw [hc]; exact h3, by rw [hc]; exact h4, by rw [hc]; exact h5, by rw [hc]; exact h6, by rw [hc]; exact h7, by rw [hc]; exact h8, by rw [hc]; exact h9⟩
set_option maxRecDepth 100000 in
set_option maxHeartbeats 4000000 in
theorem walk (no a0 a1 a2 a3 a4 : Int) (s t : ByteArray) (A : Option Addr) (zs : List Int) (m c : Nat) (hm : zs.length = m) (hc : m ≤ c) (hs : s.size ≤ 9223372036854775807) (ht : t.size ≤ 9223372036854775807) (cap : Bool) (w : World) (hG : Gl w) (hI : Ints w A zs) :
    Calls Tryd.prog 7 #[.agg #[.int .i64 no, .int .i64 a0, .int .i64 a1, .int .i64 a2, .int .i64 a3, .int .i64 a4, .string s, .string t, .slice A m c], .bool cap] w fun e w' => e = .returned (.bool true) ∧ Below w.heap.size w w' := by
  have HG := Lib.hid hG; clear hG
  have HI := Lib.hid hI; clear hI
  have HM := Lib.hid hm; clear hm
  obtain ⟨k, hk⟩ : ∃ k, (zs.take 100).length = k := ⟨_, rfl⟩
  have hkl : k ≤ 100 := by rw [← hk, List.length_take]; omega
  have HK := Lib.hid hk; clear hk
  obtain ⟨R, hR⟩ : ∃ R, checkP no [a0, a1, a2, a3, a4] s.size t.size (zs.take 100) = R := ⟨_, rfl⟩
  have HR := Lib.hid hR; clear hR
  obtain ⟨V, hV⟩ : ∃ V, rgateV no a0 a1 R cap = V := ⟨_, rfl⟩
  have HV := Lib.hid hV; clear hV
  have HC := Lib.hid hc; clear hc
  have HS := Lib.hid hs; clear hs
  have HT := Lib.hid ht; clear ht
  have HKL := Lib.hid hkl; clear hkl
  go_enter Tryd.func7, Tryd.ntmps7
  go_wp2_with fail
  refine (short_m no a0 a1 a2 a3 a4 s t A zs m c k HM.out HC.out HK _ (HI.out.below ((Below.refl _ w).alloc (Nat.le_refl _) _))).mono ?_
  rintro e w1 ⟨A', c', rfl, hI', hB, hA'0⟩
  have hA' := Lib.hid hA'0; clear hA'0
  have hB1 : Below w.heap.size w w1 := ((Below.refl _ w).alloc (Nat.le_refl _) _).trans (hB.mono (by simp <;> omega))
  have hbx : ∀ j, w1.cell? ⟨w.heap.size, j, none⟩ = (#[Value.int .i64 no, .int .i64 a0, .int .i64 a1, .int .i64 a2, .int .i64 a3, .int .i64 a4, .string s, .string t, .slice A m c] : Array Value)[j]? := fun j => by
    rw [hB.cell (p := ⟨w.heap.size, j, none⟩) (by simp)]
    simp [go_sem]
  have hfx : ∀ j, w1.frozen? ⟨w.heap.size, j, none⟩ = false := fun j => by
    rw [hB.frozen (p := ⟨w.heap.size, j, none⟩) (by simp)]
    simp [go_sem]
  have hlt : w.heap.size < w1.heap.size := by have := hB.size; simp at this; omega
  clear hB
  go_upto_region 2 with fail
  obtain ⟨W1, hW1⟩ : ∃ W1, set9 w1 w.heap.size (.int .i64 no) (.int .i64 a0) (.int .i64 a1) (.int .i64 a2) (.int .i64 a3) (.int .i64 a4) (.string s) (.string t) (.slice A' k c') = W1 := ⟨_, rfl⟩
  have hW1' := hW1
  unfold set9 at hW1'
  rw [hW1']
  clear hW1'
  obtain ⟨q0, q1, q2, q3, q4, q5, q6, q7, q8⟩ := set9_cells (.int .i64 no) (.int .i64 a0) (.int .i64 a1) (.int .i64 a2) (.int .i64 a3) (.int .i64 a4) (.string s) (.string t) (.slice A' k c') (hbx 0) (hbx 1) (hbx 2) (hbx 3) (hbx 4) (hbx 5) (hbx 6) (hbx 7) (hbx 8)
  have hBW : Below w.heap.size w W1 := by rw [← hW1]; exact below_set9 hB1 (Nat.le_refl _) _ _ _ _ _ _ _ _ _
  have hIW : Ints W1 A' (zs.take 100) := by
    rw [← hW1]
    have far1 : ∀ b, A'.map Addr.block = some b → w.heap.size ≠ b := fun b hb => by have := hA'.out b hb; simp at this; omega
    exact ints_set9 hI'.out far1 _ _ _ _ _ _ _ _ _
  have hsz : w.heap.size < W1.heap.size := by rw [← hW1]; simpa [set9] using hlt
  rw [hW1] at q0 q1 q2 q3 q4 q5 q6 q7 q8
  clear hbx hfx hlt hB1 hI' hW1 w1 hA'
  have HIW := Lib.hid hIW; clear hIW
  have HBW := Lib.hid hBW; clear hBW
  have HSZ := Lib.hid hsz; clear hsz
  have hst : Hid (Box W1 w.heap.size no a0 a1 a2 a3 a4 s t A' k c' W1.drew) := Lib.hid (Box.step HSZ.out ⟨Below.refl _ _, q0, q1, q2, q3, q4, q5, q6, q7, q8⟩ (Below.refl _ _).drew)
  have HGW : Hid (Gl W1) := Lib.hid ((HG.out).below HBW.out (HG.out.2.2))
  go_region_held3 (fun w' => Below W1.heap.size W1 w' ∧ w'.cell? ⟨w.heap.size, 0, none⟩ = some (.int .i64 no) ∧ w'.cell? ⟨w.heap.size, 1, none⟩ = some (.int .i64 a0) ∧ w'.cell? ⟨w.heap.size, 2, none⟩ = some (.int .i64 a1) ∧ w'.cell? ⟨w.heap.size, 3, none⟩ = some (.int .i64 a2) ∧ w'.cell? ⟨w.heap.size, 4, none⟩ = some (.int .i64 a3) ∧
    w'.cell? ⟨w.heap.size, 5, none⟩ = some (.int .i64 a4) ∧ w'.cell? ⟨w.heap.size, 6, none⟩ = some (.string s) ∧ w'.cell? ⟨w.heap.size, 7, none⟩ = some (.string t) ∧ w'.cell? ⟨w.heap.size, 8, none⟩ = some (.slice A' k c'))
    (first
      | exact hst.out
      | exact (Box.step HSZ.out ‹Below W1.heap.size W1 _ ∧ _› (by assumption)))
    (first
      | (go_at_call 10; refine (own_m no a0 a1 a2 a3 a4 s t A' _ k c' HK.out HKL.out _ (HIW.out.below (‹Below W1.heap.size W1 _ ∧ _›.1))).mono ?_; rintro e w' ⟨A2, c2, rfl, hI2, hb2, -⟩)
      | (go_at_call 18; refine (gate_V HV HS.out HT.out HR HK HKL.out A2 c2 _ (HGW.out.later (‹Below W1.heap.size W1 _ ∧ _›.1)) hI2.out).mono ?_; rintro e w' ⟨rfl, hb3⟩)
      | (go_at_call 19; refine (rgate_V HV HR HK HKL.out A' c' _ (HIW.out.below (‹Below W1.heap.size W1 _ ∧ _›.1))).mono ?_; rintro e w' ⟨rfl, hb4⟩)
      | (go_at_call 12; refine (lives_any _ (HGW.out.later (‹Below W1.heap.size W1 _ ∧ _›.1))).mono ?_; rintro e w' ⟨rfl, hb5⟩))
  go_wp2_with fail
  go_ret
  exact ⟨rfl, HBW.out.trans ((‹Below W1.heap.size W1 _ ∧ _›.1).mono HBW.out.size)⟩
set_option maxRecDepth 100000 in
theorem contract (H : Type) (enc : TypeId × Value → H) (W : World) (base : Nat) (args : Array Value) (ds gs : List (DataW H)) (before : List MemPlace)
    (hval : ∀ (j : Nat) t v, Tryd.f7.params[j]? = some t → args[j]? = some v → Value.okWide Tryd.prog W .any base t v)
    (hW : DataW.Whole enc Tryd.prog Tryd.f7.params.toList Rows.reqsGatesSpec.vars false W args.toList ds gs before) (hL : laidMetH Tryd.prog laid4 W) (hsh : W.ShapedOpen Tryd.prog) :
    Calls Tryd.prog 7 args W fun e W' => ∃ v, e = .returned v ∧ Rows.reqsGatesSpec.post enc Tryd.prog Tryd.f7 false true false false W args v W' := by
  have hW' := hW
  obtain ⟨p, q, hA0, hV, rfl, hfz, hnd⟩ := hW
  have hA : DataW.TrodAll enc Tryd.prog W 0 (fun _ => true) true Tryd.f7.params.toList args.toList ds p := hA0
  rw [Tryd.params7] at hA hval
  obtain ⟨v0, vs0, d0, ds0, p0, q0, hargs, rfl, rfl, h0, r0⟩ := trodAll_cons hA
  obtain ⟨v1, vs1, d1, ds1, p1, q1, rfl, rfl, rfl, h1, r1⟩ := trodAll_cons r0
  obtain ⟨rfl, rfl, rfl⟩ := trodAll_nil r1
  obtain rfl : args = #[v0, v1] := by cases args; simp_all
  obtain ⟨rfl, rfl⟩ := trodVars_none hV
  have h0k := h0
  obtain ⟨no, a0, a1, a2, a3, a4, s, t, A, m, c, zs, rfl, hm, hc, hI, hs, ht⟩ := open_req (hval 0 25 v0 rfl rfl) h0
  obtain ⟨x1, rfl, rfl, rfl⟩ := open_bool Tryd.underlying4 (hval 1 4 v1 rfl rfl) h1
  clear hA0
  simp only [List.append_nil] at hW'
  have hlt : ∀ x ∈ p0, x.block < W.heap.size := fun x hx => hW'.lt x (by simp [hx])
  refine (walk no a0 a1 a2 a3 a4 s t A zs m c hm hc hs ht x1 W (gl_of hL hsh) hI).mono fun e W' ⟨he, hb⟩ => ?_
  subst he
  refine ⟨_, rfl, _, _, _, [], p0 ++ ([] ++ []), [], hW', ?_, ?_, rfl, hb.frame _, fun h => by cases h⟩
  · exact trodAll_cons_mk (shut_bool Tryd.underlying4 _) trodAll_mk0
  · exact trodAll_cons_mk (Below.trod laidOut (by kernel_rfl) (of_decide_eq_true (by kernel_rfl)) h0k hb hlt) (trodAll_cons_mk (shut_bool Tryd.underlying4 _) trodAll_mk0)
theorem reads (os : Os) {H : Type} (enc : TypeId × Value → H) : ∃ places, DataW.whole enc Tryd.prog ((laidWorld os).forCall (fun _ _ => 0) ⟨#[], #[Value.agg #[.int .i64 0, .int .i64 0, .int .i64 0, .int .i64 0, .int .i64 0, .int .i64 0, .string ByteArray.empty, .string ByteArray.empty, .slice none 0 0], .bool false], []⟩).memory Tryd.f7.params.toList Rows.reqsGatesSpec.vars false #[Value.agg #[.int .i64 0, .int .i64 0, .int .i64 0, .int .i64 0, .int .i64 0, .int .i64 0, .string ByteArray.empty, .string ByteArray.empty, .slice none 0 0], .bool false].toList 8 = some ([.agg [.lit (.int .i64 0), .agg [.lit (.int .i64 0), .lit (.int .i64 0), .lit (.int .i64 0), .lit (.int .i64 0), .lit (.int .i64 0)], .lit (.string []), .lit (.string []), .nil], .lit (.bool false)], [], places) :=
  ⟨[], by kernel_rfl⟩
set_option maxRecDepth 100000 in
theorem lifted (os : Os) (started : os.Started) (H : Type) (enc : TypeId × Value → H) (F : Stop.Interp) :
    ReturnsInHanded {} Tryd.checked os 7 .any ((OpenSpec.ofChange Rows.reqsGatesSpec).preRow enc Tryd.prog Tryd.f7 Rows.reqsGatesRow.domain false Rows.reqsGatesRow.laid) (((OpenSpec.ofChange Rows.reqsGatesSpec).at F).post enc Tryd.prog Tryd.f7 false true false false) := by
  obtain ⟨places, hx⟩ := reads os enc
  refine returnsInHanded_of_row (C := Tryd.checked) (s := OpenSpec.ofChange Rows.reqsGatesSpec) own started (by kernel_rfl) Tryd.func7
    (witness_row_atRef (enc := enc) (C := Tryd.checked) false (laidWorld os) #[Value.agg #[.int .i64 0, .int .i64 0, .int .i64 0, .int .i64 0, .int .i64 0, .int .i64 0, .string ByteArray.empty, .string ByteArray.empty, .slice none 0 0], .bool false] rfl (by kernel_rfl) (by kernel_rfl) (by kernel_rfl)
      (OpenSpec.preRow_of_cond 8 hx (by kernel_rfl) (fun k hk => by cases hk) (by kernel_rfl) (laid_met os _))) ?_
  intro W base args ds gs before hval hW _ _ _ hL hsh _
  exact contract H enc W base args ds gs before hval hW hL hsh
theorem said : Rows.ReqsGatesSaid :=
  OpenClaim.holds_of_cond 7 Tryd.f7 rfl rfl rfl rfl rfl rfl rfl ⟨rfl, rfl, rfl, rfl, rfl⟩ rfl rfl rfl rfl rfl (by kernel_rfl) Tryd.func7 (by kernel_rfl)
    (of_decide_eq_true (by kernel_rfl)) (by unfold Func.isWrapper; first | (rw [if_pos (by decide +kernel)]; kernel_rfl) | (rw [if_neg (by decide +kernel)]; exact ⟨rfl, rfl⟩))
    (fun os started H enc _ F => by rw [OpenClaim.pre_eq_preRow]; exact lifted os started H enc F)
theorem plain (f : FuncId) (fn : Func) (hf : Tryd.pinned.checked.prog.funcNamed "purlieu/purlieulaw16.ReqsGates" = some f) (hfn : Tryd.pinned.checked.prog.funcs[f]? = some fn) :
    false = Tryd.pinned.checked.prog.looks [] ∧ ∀ (j : Nat) t, fn.params[j]? = some t → Tryd.pinned.checked.prog.wantsStandIn t = false := by
  obtain rfl : f = 7 := Option.some.inj ((show Tryd.prog.funcNamed "purlieu/purlieulaw16.ReqsGates" = some 7 by kernel_rfl).symm.trans hf) |>.symm
  obtain rfl : fn = Tryd.f7 := (Option.some.inj (Tryd.func7.symm.trans hfn)).symm
  refine ⟨by kernel_rfl, fun j t ht => ?_⟩
  rw [Tryd.params7] at ht
  have := Array.mem_of_getElem? ht
  simp only [List.mem_toArray, List.mem_cons, List.not_mem_nil, or_false] at this
  rcases this with rfl | rfl
  · exact (show Tryd.prog.wantsStandIn 25 = false by kernel_rfl)
  · exact (show Tryd.prog.wantsStandIn 4 = false by kernel_rfl)
/-- The card. -/
theorem card : Rows.ReqsGatesCardSaid :=
  Claim7.holds_tied_plain_at .later [] _ _ _ _ said (fun _ h => by cases h) (by kernel_rfl) (fun _ h => by cases h) reqsGates_row_tie rfl ⟨rfl, rfl⟩ (by kernel_rfl) rfl plain (by kernel_rfl)
end Go.Proofs.YtmjlfknkembhnaaDoor.lawGates
