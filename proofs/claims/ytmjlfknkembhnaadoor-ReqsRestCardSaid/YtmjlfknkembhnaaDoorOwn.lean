/- The reference's Own, and short: a request in memory of its own. Conditions: those named. -/
import Derived.Test.YtmjlfknkembhnaaDoorLives
import Derived.Laws.AppendOwnNone
namespace Go.Proofs.YtmjlfknkembhnaaDoor
open Go Go.RowKit
theorem info3 : (Tryd.prog.info? 3).map (fun i => (i.zero, i.size, i.bytes)) = some (some (.int .i64 0), 1, 8) := by kernel_rfl
/-- A request with a list zs in new memory. -/
def OwnAt (no a0 a1 a2 a3 a4 : Int) (s t : ByteArray) (zs : List Int) (w : World) (e : Ending) (w' : World) : Prop :=
  ∃ (A : Option Addr) (c : Nat), e = .returned (.agg #[.int .i64 no, .int .i64 a0, .int .i64 a1, .int .i64 a2, .int .i64 a3, .int .i64 a4, .string s, .string t, .slice A zs.length c]) ∧ Ints w' A zs ∧ Below w.heap.size w w' ∧ ∀ b, A.map Addr.block = some b → w.heap.size ≤ b
theorem ints_of_row {w : World} {B : Nat} {v : Value} {zs : List Int} (h : w.ownsRow B 3 1 v zs.length (zs.map (Value.int .i64))) : ∃ A c, v = .slice A zs.length c ∧ Ints w A zs ∧ ∀ b, A.map Addr.block = some b → B ≤ b := by
  obtain ⟨_, ⟨rfl, h0⟩ | ⟨g, cap, cur, rfl, hB, hb, h1, h2, h3, h4⟩⟩ := h
  · exact ⟨none, 0, by rw [h0], fun j hj => by omega, fun b hb => by simp at hb⟩
  · refine ⟨some ⟨g, 0, none⟩, cap, rfl, fun j hj => ⟨g, 0, rfl, (Array.getElem?_eq_some_iff.1 hb).1, ?_⟩, fun b' hb' => by simp at hb'; omega⟩
    have e : cur[j]? = some (.int .i64 (zs.getD j 0)) := by
      have h5 : (cur.toList.take (zs.length * 1))[j]? = (zs.map (Value.int .i64))[j]? := by rw [h4]
      rw [List.getElem?_take_of_lt (by omega), List.getElem?_map, List.getElem?_eq_getElem hj] at h5
      rw [List.getD_eq_getElem?_getD, List.getElem?_eq_getElem hj]
      simpa using h5
    simp [World.cell?, hb, e]
theorem results_req10 {tm : Array Value} {R : Nat} {W : World} {v0 v1 v2 v3 v4 v5 v6 v7 v8 : Value} (hp : tm.getD 2 undef = .pointer (some ⟨R, 0, none⟩))
    (q0 : W.cell? ⟨R, 0, none⟩ = some v0) (q1 : W.cell? ⟨R, 1, none⟩ = some v1) (q2 : W.cell? ⟨R, 2, none⟩ = some v2) (q3 : W.cell? ⟨R, 3, none⟩ = some v3) (q4 : W.cell? ⟨R, 4, none⟩ = some v4) (q5 : W.cell? ⟨R, 5, none⟩ = some v5) (q6 : W.cell? ⟨R, 6, none⟩ = some v6) (q7 : W.cell? ⟨R, 7, none⟩ = some v7) (q8 : W.cell? ⟨R, 8, none⟩ = some v8) :
    (results Tryd.f10 tm).run Tryd.prog W = .ok (.agg #[v0, v1, v2, v3, v4, v5, v6, v7, v8]) W := by
  have hp' : tm[2]?.getD undef = .pointer (some ⟨R, 0, none⟩) := by simpa using hp
  simp [results, Tryd.results10, go_sem, hp', q0, q1, q2, q3, q4, q5, q6, q7, q8]
theorem results_req8 {tm : Array Value} {R : Nat} {W : World} {v0 v1 v2 v3 v4 v5 v6 v7 v8 : Value} (hp : tm.getD 2 undef = .pointer (some ⟨R, 0, none⟩))
    (q0 : W.cell? ⟨R, 0, none⟩ = some v0) (q1 : W.cell? ⟨R, 1, none⟩ = some v1) (q2 : W.cell? ⟨R, 2, none⟩ = some v2) (q3 : W.cell? ⟨R, 3, none⟩ = some v3) (q4 : W.cell? ⟨R, 4, none⟩ = some v4) (q5 : W.cell? ⟨R, 5, none⟩ = some v5) (q6 : W.cell? ⟨R, 6, none⟩ = some v6) (q7 : W.cell? ⟨R, 7, none⟩ = some v7) (q8 : W.cell? ⟨R, 8, none⟩ = some v8) :
    (results Tryd.f8 tm).run Tryd.prog W = .ok (.agg #[v0, v1, v2, v3, v4, v5, v6, v7, v8]) W := by
  have hp' : tm[2]?.getD undef = .pointer (some ⟨R, 0, none⟩) := by simpa using hp
  simp [results, Tryd.results8, go_sem, hp', q0, q1, q2, q3, q4, q5, q6, q7, q8]
theorem results_req16 {tm : Array Value} {R : Nat} {W : World} {v0 v1 v2 v3 v4 v5 v6 v7 v8 : Value} (hp : tm.getD 2 undef = .pointer (some ⟨R, 0, none⟩))
    (q0 : W.cell? ⟨R, 0, none⟩ = some v0) (q1 : W.cell? ⟨R, 1, none⟩ = some v1) (q2 : W.cell? ⟨R, 2, none⟩ = some v2) (q3 : W.cell? ⟨R, 3, none⟩ = some v3) (q4 : W.cell? ⟨R, 4, none⟩ = some v4) (q5 : W.cell? ⟨R, 5, none⟩ = some v5) (q6 : W.cell? ⟨R, 6, none⟩ = some v6) (q7 : W.cell? ⟨R, 7, none⟩ = some v7) (q8 : W.cell? ⟨R, 8, none⟩ = some v8) :
    (results Tryd.f16 tm).run Tryd.prog W = .ok (.agg #[v0, v1, v2, v3, v4, v5, v6, v7, v8]) W := by
  have hp' : tm[2]?.getD undef = .pointer (some ⟨R, 0, none⟩) := by simpa using hp
  simp [results, Tryd.results16, go_sem, hp', q0, q1, q2, q3, q4, q5, q6, q7, q8]
/-- Nine cells laid one behind the other. -/
def set9 (W : World) (R : Nat) (v0 v1 v2 v3 v4 v5 v6 v7 v8 : Value) : World :=
  (((((((((W.setCell ⟨R, 0, none⟩ v0).setCell ⟨R, 1, none⟩ v1).setCell ⟨R, 2, none⟩ v2).setCell ⟨R, 3, none⟩ v3).setCell ⟨R, 4, none⟩ v4).setCell ⟨R, 5, none⟩ v5).setCell ⟨R, 6, none⟩ v6).setCell ⟨R, 7, none⟩ v7).setCell ⟨R, 8, none⟩ v8)
theorem set9_cells {W : World} {R : Nat} {u0 u1 u2 u3 u4 u5 u6 u7 u8 : Value} (v0 v1 v2 v3 v4 v5 v6 v7 v8 : Value) (r0 : W.cell? ⟨R, 0, none⟩ = some u0) (r1 : W.cell? ⟨R, 1, none⟩ = some u1) (r2 : W.cell? ⟨R, 2, none⟩ = some u2) (r3 : W.cell? ⟨R, 3, none⟩ = some u3) (r4 : W.cell? ⟨R, 4, none⟩ = some u4) (r5 : W.cell? ⟨R, 5, none⟩ = some u5) (r6 : W.cell? ⟨R, 6, none⟩ = some u6) (r7 : W.cell? ⟨R, 7, none⟩ = some u7) (r8 : W.cell? ⟨R, 8, none⟩ = some u8) :
    (set9 W R v0 v1 v2 v3 v4 v5 v6 v7 v8).cell? ⟨R, 0, none⟩ = some v0 ∧ (set9 W R v0 v1 v2 v3 v4 v5 v6 v7 v8).cell? ⟨R, 1, none⟩ = some v1 ∧ (set9 W R v0 v1 v2 v3 v4 v5 v6 v7 v8).cell? ⟨R, 2, none⟩ = some v2 ∧ (set9 W R v0 v1 v2 v3 v4 v5 v6 v7 v8).cell? ⟨R, 3, none⟩ = some v3 ∧ (set9 W R v0 v1 v2 v3 v4 v5 v6 v7 v8).cell? ⟨R, 4, none⟩ = some v4 ∧ (set9 W R v0 v1 v2 v3 v4 v5 v6 v7 v8).cell? ⟨R, 5, none⟩ = some v5 ∧ (set9 W R v0 v1 v2 v3 v4 v5 v6 v7 v8).cell? ⟨R, 6, none⟩ = some v6 ∧ (set9 W R v0 v1 v2 v3 v4 v5 v6 v7 v8).cell? ⟨R, 7, none⟩ = some v7 ∧ (set9 W R v0 v1 v2 v3 v4 v5 v6 v7 v8).cell? ⟨R, 8, none⟩ = some v8 := by
  unfold set9
  refine ⟨?_, ?_, ?_, ?_, ?_, ?_, ?_, ?_, ?_⟩ <;> simp [go_sem, r0, r1, r2, r3, r4, r5, r6, r7, r8]
theorem below_set9 {B : Nat} {w W : World} (h : Below B w W) {R : Nat} (hR : B ≤ R) (v0 v1 v2 v3 v4 v5 v6 v7 v8 : Value) : Below B w (set9 W R v0 v1 v2 v3 v4 v5 v6 v7 v8) :=
  (((((((((h.setCell (p := ⟨R, 0, none⟩) hR _).setCell (p := ⟨R, 1, none⟩) hR _).setCell (p := ⟨R, 2, none⟩) hR _).setCell (p := ⟨R, 3, none⟩) hR _).setCell (p := ⟨R, 4, none⟩) hR _).setCell (p := ⟨R, 5, none⟩) hR _).setCell (p := ⟨R, 6, none⟩) hR _).setCell (p := ⟨R, 7, none⟩) hR _).setCell (p := ⟨R, 8, none⟩) hR _)
theorem ints_setCell {W : World} {A : Option Addr} {zs : List Int} (h : Ints W A zs) (p : Addr) (v : Value) (hne : ∀ b, A.map Addr.block = some b → p.block ≠ b) : Ints (W.setCell p v) A zs := fun j hj => by
  obtain ⟨b, off, e, hlt, hc⟩ := h j hj
  refine ⟨b, off, e, by simpa using hlt, ?_⟩
  rw [World.cell?_setCell_far _ _ _ _ (by simpa using hne b (by rw [e]; rfl))]; exact hc
theorem own_tail {no a0 a1 a2 a3 a4 : Int} {s t : ByteArray} {w w1 : World} {A' : Option Addr} {c' : Nat} {zs : List Int} {a : Act} {f8 : Value}
    (hrx : ∀ j, w1.cell? ⟨w.heap.size + 1, j, none⟩ = (#[Value.int .i64 0, .int .i64 0, .int .i64 0, .int .i64 0, .int .i64 0, .int .i64 0, .string ⟨#[]⟩, .string ⟨#[]⟩, .slice none 0 0] : Array Value)[j]?)
    (hB1 : Below w.heap.size w w1) (hA' : ∀ b, A'.map Addr.block = some b → w.heap.size + 1 + 1 ≤ b) (hI : Ints w1 A' zs)
    (hp : a.tmps.getD 2 undef = .pointer (some ⟨w.heap.size + 1, 0, none⟩)) (hd : a.defers = []) :
    bodyPost Tryd.prog Tryd.f10 (OwnAt no a0 a1 a2 a3 a4 s t zs w) Exit.ret a
      (set9 (w1.setCell ⟨w.heap.size, 8, none⟩ f8) (w.heap.size + 1) (.int .i64 no) (.int .i64 a0) (.int .i64 a1) (.int .i64 a2) (.int .i64 a3) (.int .i64 a4) (.string s) (.string t) (.slice A' zs.length c')) := by
  have hrx' : ∀ j, (w1.setCell ⟨w.heap.size, 8, none⟩ f8).cell? ⟨w.heap.size + 1, j, none⟩ = (#[Value.int .i64 0, .int .i64 0, .int .i64 0, .int .i64 0, .int .i64 0, .int .i64 0, .string ⟨#[]⟩, .string ⟨#[]⟩, .slice none 0 0] : Array Value)[j]? := fun j => by
    rw [World.cell?_setCell_far _ _ _ _ (by simp)]; exact hrx j
  obtain ⟨q0, q1, q2, q3, q4, q5, q6, q7, q8⟩ := set9_cells (.int .i64 no) (.int .i64 a0) (.int .i64 a1) (.int .i64 a2) (.int .i64 a3) (.int .i64 a4) (.string s) (.string t) (.slice A' zs.length c') (hrx' 0) (hrx' 1) (hrx' 2) (hrx' 3) (hrx' 4) (hrx' 5) (hrx' 6) (hrx' 7) (hrx' 8)
  refine bodyPost_ret (results_req10 hp q0 q1 q2 q3 q4 q5 q6 q7 q8) hd ⟨A', c', rfl, ?_, ?_, fun b hb => by have := hA' b hb; omega⟩
  · have far0 : ∀ b, A'.map Addr.block = some b → w.heap.size ≠ b := fun b hb => by have := hA' b hb; omega
    have far1 : ∀ b, A'.map Addr.block = some b → w.heap.size + 1 ≠ b := fun b hb => by have := hA' b hb; omega
    unfold set9
    exact ints_setCell (ints_setCell (ints_setCell (ints_setCell (ints_setCell (ints_setCell (ints_setCell (ints_setCell (ints_setCell (ints_setCell hI _ _ far0) _ _ far1) _ _ far1) _ _ far1) _ _ far1) _ _ far1) _ _ far1) _ _ far1) _ _ far1) _ _ far1
  · exact below_set9 (hB1.setCell (p := ⟨w.heap.size, 8, none⟩) (Nat.le_refl _) _) (by omega) _ _ _ _ _ _ _ _ _
set_option maxRecDepth 100000 in
set_option maxHeartbeats 2000000 in
theorem own_any (no a0 a1 a2 a3 a4 : Int) (s t : ByteArray) (A : Option Addr) (zs : List Int) (m c : Nat) (hm : zs.length = m) (hl : m ≤ 1000) (w : World) (hI : Ints w A zs) :
    Calls Tryd.prog 10 #[.agg #[.int .i64 no, .int .i64 a0, .int .i64 a1, .int .i64 a2, .int .i64 a3, .int .i64 a4, .string s, .string t, .slice A m c]] w (OwnAt no a0 a1 a2 a3 a4 s t zs w) := by
  have HI := Lib.hid hI; clear hI
  have HM := Lib.hid hm; clear hm
  obtain ⟨i0, hi, hz0, hz1, hz2⟩ := info_parts info3
  cases A with
  | none =>
    have hz : zs = [] := by
      cases zs with
      | nil => rfl
      | cons z zs => obtain ⟨b, off, he, _⟩ := HI.out 0 (by simp); cases he
    subst hz
    have hm0 : m = 0 := by have := HM.out; simpa using this.symm
    subst hm0
    go_enter Tryd.func10, Tryd.ntmps10
    go_wp2
    refine bodyPost_ret (results_req10 (R := w.heap.size + 1) rfl (by simp [go_sem]) (by simp [go_sem]) (by simp [go_sem]) (by simp [go_sem]) (by simp [go_sem]) (by simp [go_sem]) (by simp [go_sem]) (by simp [go_sem]) (by simp [go_sem])) rfl
      ⟨some ⟨w.heap.size + 1 + 1, 0, none⟩, 0, rfl, fun j hj => by simp at hj, ((((Below.refl _ w).alloc (Nat.le_refl _) _).alloc (by simp) _).alloc (by simp <;> omega) _), fun b hb => by simp at hb; omega⟩
  | some ad =>
    have hown : ∀ W : World, W.heap.size = w.heap.size + 1 + 1 → (W.alloc (.cells #[] 3)).ownsRow (w.heap.size + 1 + 1) 3 1 (.slice (some ⟨w.heap.size + 1 + 1, 0, none⟩) 0 0) 0 [] := fun W hs => by
      rw [← hs]; exact World.ownsRow_made W #[] 0 (by omega) (Nat.zero_le _) rfl
    go_enter Tryd.func10, Tryd.ntmps10
    go_wp2_with (at_builtin; refine wpList_append_own _ rfl _ _ 23 rfl (w.heap.size + 1 + 1) 3 i0 (.int .i64 0) 1 8 Tryd.underlying23 hi hz0 hz1 hz2 rfl (by decide) _ _ _ rfl (hown _ (by simp)) ad m c (zs.map (Value.int .i64)) rfl ?qc1 ?qc2 ?qc3 ?qc4 (by omega) ?qc6 ?_)
    case qc1 => rw [List.length_map, HM.out]; omega
    case qc2 =>
      intro j u hj
      have hj' : j < zs.length := by
        have := (List.getElem?_eq_some_iff.1 hj).1
        simpa using this
      obtain ⟨b, off, he, hb, hcell⟩ := HI.out j hj'
      cases he
      rw [List.getElem?_map, List.getElem?_eq_getElem hj'] at hj
      rw [List.getD_eq_getElem?_getD, List.getElem?_eq_getElem hj'] at hcell
      simp only [Option.map_some, Option.some.injEq, Option.getD_some] at hj hcell
      subst hj
      rw [Addr.add_lit, ← hcell]
      exact ((((Below.refl _ w).alloc (Nat.le_refl _) _).alloc (by simp) _).alloc (by simp <;> omega) _).cell (p := ⟨b, off + j, none⟩) hb
    case qc3 => intro u hu; obtain ⟨x, _, rfl⟩ := List.mem_map.1 hu; rfl
    case qc4 => unfold maxLen; omega
    case qc6 => simp <;> omega
    intro v' w1 hown1 hgrow _
    have hB1 : Below w.heap.size w w1 := ((((Below.refl _ w).alloc (Nat.le_refl _) _).alloc (by simp) _).alloc (by simp <;> omega) _).grown hgrow (by simp <;> omega) (by intro k hk; simp [Value.ownBlock] at hk; omega)
    have nb0 : (Value.slice (some ⟨w.heap.size + 1 + 1, 0, none⟩) 0 0).ownBlock ≠ some w.heap.size := by simp [Value.ownBlock] <;> omega
    have nb1 : (Value.slice (some ⟨w.heap.size + 1 + 1, 0, none⟩) 0 0).ownBlock ≠ some (w.heap.size + 1) := by simp [Value.ownBlock]
    have hbx : ∀ j, w1.cell? ⟨w.heap.size, j, none⟩ = (#[Value.int .i64 no, .int .i64 a0, .int .i64 a1, .int .i64 a2, .int .i64 a3, .int .i64 a4, .string s, .string t, .slice (some ad) m c] : Array Value)[j]? := fun j => by
      rw [World.cell?_of_block (a := ⟨w.heap.size, j, none⟩) (hgrow.block w.heap.size (by simp <;> omega) nb0.symm)]
      simp [go_sem]
    have hrx : ∀ j, w1.cell? ⟨w.heap.size + 1, j, none⟩ = (#[Value.int .i64 0, .int .i64 0, .int .i64 0, .int .i64 0, .int .i64 0, .int .i64 0, .string ⟨#[]⟩, .string ⟨#[]⟩, .slice none 0 0] : Array Value)[j]? := fun j => by
      rw [World.cell?_of_block (a := ⟨w.heap.size + 1, j, none⟩) (hgrow.block (w.heap.size + 1) (by simp) nb1.symm)]
      simp [go_sem]
    have hfx : ∀ j, w1.frozen? ⟨w.heap.size, j, none⟩ = false := fun j => by
      rw [World.frozen?_of_block (a := ⟨w.heap.size, j, none⟩) (hgrow.block w.heap.size (by simp <;> omega) nb0.symm)]
      simp [go_sem]
    have hgx : ∀ j, w1.frozen? ⟨w.heap.size + 1, j, none⟩ = false := fun j => by
      rw [World.frozen?_of_block (a := ⟨w.heap.size + 1, j, none⟩) (hgrow.block (w.heap.size + 1) (by simp) nb1.symm)]
      simp [go_sem]
    have hs1 := hgrow.size
    simp only [World.size_alloc] at hs1
    clear hgrow nb0 nb1 hown
    rw [← HM.out] at hown1
    obtain ⟨A', c', rfl, hI', hA'⟩ := ints_of_row hown1
    clear hown1
    have HI' := Lib.hid hI'; clear hI'
    go_wp2
    exact own_tail hrx hB1 hA' HI'.out rfl rfl
end Go.Proofs.YtmjlfknkembhnaaDoor
