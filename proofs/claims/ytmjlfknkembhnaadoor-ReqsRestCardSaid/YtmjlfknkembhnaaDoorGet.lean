/- calls.Get: the call with a number is the one in the table's line. Conditions: the library's table of white space as its initialiser lays it. -/
import Derived.Test.YtmjlfknkembhnaaDoorGetInv
import Derived.Deep.RegionHeld3
import Derived.Deep.DeepCutAuto
import Derived.BigFrameIn
namespace Go.Proofs.YtmjlfknkembhnaaDoor
open Go Go.RowKit Go.Shelf
attribute [local go_sem] Oper.semAt_some
def nameOf (n : Nat) : ByteArray := word n 0
def gateC (n : Nat) : UInt8 := ((words n).getD 1 []).getD 0 0
def gateOf (n : Nat) : Int := ((gateC n).toNat : Int) - 48
def dot : ByteArray := { data := #[46] }
def shapeOf (n : Nat) : ByteArray := ⟨(Lib.trimPrefix (word n 2).data.toList dot.data.toList).toArray⟩
/-- The rights that a call needs of its first and its second descriptor. -/
def needA (n : Nat) : Int := if 3 < (words n).length then nd n 3 else 0
def needB (n : Nat) : Int := if 4 < (words n).length then nd n 4 else 0
theorem needA_no {n m : Nat} (h : Hid ((words n).length = m)) (hm : m ≤ 3) : needA n = 0 := by unfold needA; rw [if_neg (by have := h.out; omega)]
theorem needA_yes {n m : Nat} (h : Hid ((words n).length = m)) (hm : 3 < m) : needA n = nd n 3 := by unfold needA; rw [if_pos (by have := h.out; omega)]
theorem needB_no {n m : Nat} (h : Hid ((words n).length = m)) (hm : m ≤ 4) : needB n = 0 := by unfold needB; rw [if_neg (by have := h.out; omega)]
theorem needB_yes {n m : Nat} (h : Hid ((words n).length = m)) (hm : 4 < m) : needB n = nd n 4 := by unfold needB; rw [if_pos (by have := h.out; omega)]
theorem gate_ok : (List.range 64).all (fun i => decide (((words (i + 1)).getD 1 []).length = 1) && decide (48 ≤ (gateC (i + 1)).toNat) && decide ((gateC (i + 1)).toNat ≤ 50)) = true := by decide +kernel
theorem get_facts (n : Nat) (h1 : 1 ≤ n) (h2 : n ≤ 64) : 3 ≤ (words n).length ∧ (words n).length ≤ 5 ∧ (word n 1).size = 1 ∧ 48 ≤ (gateC n).toNat ∧ (gateC n).toNat ≤ 50 := by
  have a := List.all_eq_true.1 words_len (n - 1) (List.mem_range.2 (by omega))
  have b := List.all_eq_true.1 gate_ok (n - 1) (List.mem_range.2 (by omega))
  rw [show n - 1 + 1 = n by omega] at a b
  simp only [Bool.and_eq_true, decide_eq_true_eq] at a b
  refine ⟨a.1, a.2, ?_, b.1.2, b.2⟩
  rw [Lib.size_eq]; exact b.1.1
theorem gate_val (n : Nat) (h : (0 : Int) < ((word n 1).size : Int)) (h4 : 48 ≤ (gateC n).toNat) (h5 : (gateC n).toNat ≤ 50) :
    IntKind.i64.wrap (IntKind.u8.wrap (((word n 1)[0]'(by omega)).toNat - 48)) = gateOf n := by
  have e : (word n 1)[0]'(by omega) = gateC n := by
    unfold gateC
    rw [List.getD_eq_getElem?_getD]
    have : ((words n).getD 1 [])[0]? = some ((word n 1)[0]'(by omega)) := by
      rw [List.getElem?_eq_some_iff]
      exact ⟨by have := Lib.size_eq (word n 1); have e2 : (word n 1).data.toList = (words n).getD 1 [] := rfl; rw [e2] at this; omega, rfl⟩
    rw [this]; rfl
  rw [e]
  have h1 : IntKind.u8.wrap (((gateC n).toNat : Int) - 48) = gateOf n := by
    unfold gateOf; simp [IntKind.wrap, IntKind.bits, IntKind.signed]; omega
  rw [h1, IntKind.wrap_i64]
  unfold gateOf; omega
theorem results_get {tm : Array Value} {R : Nat} {bb : Bool} {W : World} {v0 v1 v2 v3 v4 : Value} (hp : tm.getD 2 undef = .pointer (some ⟨R, 0, none⟩)) (hb : tm.getD 3 undef = .bool bb)
    (q0 : W.cell? ⟨R, 0, none⟩ = some v0) (q1 : W.cell? ⟨R, 1, none⟩ = some v1) (q2 : W.cell? ⟨R, 2, none⟩ = some v2) (q3 : W.cell? ⟨R, 3, none⟩ = some v3) (q4 : W.cell? ⟨R, 4, none⟩ = some v4) :
    (results Tryd.f24 tm).run Tryd.prog W = .ok (.tuple #[.agg #[v0, v1, v2, v3, v4], .bool bb]) W := by
  have hp' : tm[2]?.getD undef = .pointer (some ⟨R, 0, none⟩) := by simpa using hp
  have hb' : tm[3]?.getD undef = .bool bb := by simpa using hb
  simp [results, Tryd.results24, go_sem, hp', hb', q0, q1, q2, q3, q4]
theorem results_rget {tm : Array Value} {R : Nat} {bb : Bool} {W : World} {v0 v1 v2 v3 v4 : Value} (hp : tm.getD 2 undef = .pointer (some ⟨R, 0, none⟩)) (hb : tm.getD 3 undef = .bool bb)
    (q0 : W.cell? ⟨R, 0, none⟩ = some v0) (q1 : W.cell? ⟨R, 1, none⟩ = some v1) (q2 : W.cell? ⟨R, 2, none⟩ = some v2) (q3 : W.cell? ⟨R, 3, none⟩ = some v3) (q4 : W.cell? ⟨R, 4, none⟩ = some v4) :
    (results Tryd.f15 tm).run Tryd.prog W = .ok (.tuple #[.agg #[v0, v1, v2, v3, v4], .bool bb]) W := by
  have hp' : tm[2]?.getD undef = .pointer (some ⟨R, 0, none⟩) := by simpa using hp
  have hb' : tm[3]?.getD undef = .bool bb := by simpa using hb
  simp [results, Tryd.results15, go_sem, hp', hb', q0, q1, q2, q3, q4]
/-- Five cells laid one behind the other. -/
def set5 (W : World) (R : Nat) (v0 v1 v2 v3 v4 : Value) : World :=
  ((((W.setCell ⟨R, 0, none⟩ v0).setCell ⟨R, 1, none⟩ v1).setCell ⟨R, 2, none⟩ v2).setCell ⟨R, 3, none⟩ v3).setCell ⟨R, 4, none⟩ v4
theorem set5_cells {W : World} {R : Nat} {u0 u1 u2 u3 u4 : Value} (v0 v1 v2 v3 v4 : Value) (r0 : W.cell? ⟨R, 0, none⟩ = some u0) (r1 : W.cell? ⟨R, 1, none⟩ = some u1) (r2 : W.cell? ⟨R, 2, none⟩ = some u2) (r3 : W.cell? ⟨R, 3, none⟩ = some u3) (r4 : W.cell? ⟨R, 4, none⟩ = some u4) :
    (set5 W R v0 v1 v2 v3 v4).cell? ⟨R, 0, none⟩ = some v0 ∧ (set5 W R v0 v1 v2 v3 v4).cell? ⟨R, 1, none⟩ = some v1 ∧ (set5 W R v0 v1 v2 v3 v4).cell? ⟨R, 2, none⟩ = some v2 ∧
      (set5 W R v0 v1 v2 v3 v4).cell? ⟨R, 3, none⟩ = some v3 ∧ (set5 W R v0 v1 v2 v3 v4).cell? ⟨R, 4, none⟩ = some v4 := by
  unfold set5
  refine ⟨?_, ?_, ?_, ?_, ?_⟩ <;> simp [go_sem, r0, r1, r2, r3, r4]
theorem below_set5 {B : Nat} {w W : World} (h : Below B w W) {R : Nat} (hR : B ≤ R) (v0 v1 v2 v3 v4 : Value) : Below B w (set5 W R v0 v1 v2 v3 v4) :=
  ((((h.setCell (p := ⟨R, 0, none⟩) hR _).setCell (p := ⟨R, 1, none⟩) hR _).setCell (p := ⟨R, 2, none⟩) hR _).setCell (p := ⟨R, 3, none⟩) hR _).setCell (p := ⟨R, 4, none⟩) hR _
theorem set5_keeps (W : World) (R : Nat) (v0 v1 v2 v3 v4 : Value) : KeepsOthers W (set5 W R v0 v1 v2 v3 v4) :=
  ((((KeepsOthers.setCell _ _ _).trans (KeepsOthers.setCell _ _ _)).trans (KeepsOthers.setCell _ _ _)).trans (KeepsOthers.setCell _ _ _)).trans (KeepsOthers.setCell _ _ _)
theorem leave_step {P : Program} {fn : Func} {D : Nat} {W : World} {tm : Array Value} {Rr : Ending → World → Prop} {ds : List Deferred} (hK : W.heap[D]? = some (.deferred (some [])))
    (h : LeavesInM Fence.wide 6 P fn tm Rr ds .returning (W.putObj D (.deferred none))) : LeavesInM Fence.wide 6 P fn tm Rr ({ target := .collected D, args := #[] } :: ds) .returning W :=
  ⟨by simp, .inl ⟨_, _, rfl, run_takeDeferred hK, h⟩⟩
theorem put_cell {W : World} {D : Nat} {o : Obj} {p : Addr} (h : p.block ≠ D) : (W.putObj D o).cell? p = W.cell? p := World.cell?_of_block (World.putObj_heap_other h)
theorem put_below {B D : Nat} {w W : World} {o : Obj} (h : Below B w W) (hD : B ≤ D) (hB : B ≤ W.heap.size) : Below B w (W.putObj D o) :=
  h.grown (grownBy_putObj' W D o) hB (fun k e => by cases e; exact hD)
set_option maxRecDepth 100000 in
set_option maxHeartbeats 2000000 in
theorem Get_in (n : Nat) (w : World) (hG : Gl w) (h1 : 1 ≤ n) (h2 : n ≤ 64) : Calls Tryd.prog 24 #[.int .i64 n] w fun e w' =>
    e = .returned (.tuple #[.agg #[.string (nameOf n), .string (shapeOf n), .int .i64 (gateOf n), .int .u32 (needA n), .int .u32 (needB n)], .bool true]) ∧ Below w.heap.size w w' := by
  obtain ⟨f1, f2, f3, f4, f5⟩ := get_facts n h1 h2
  have H := Lib.hid hG; clear hG
  refine callsIn_wide.1 (callsIn_of_wp_marks (n := 6) Tryd.func24 rfl trivial (wpIn_wide.2 ?_) rfl)
  simp only [Tryd.ntmps24, List.size_toArray, List.length_cons, List.length_nil, Nat.reduceAdd, Nat.reduceSub, Array.replicate_succ, Array.replicate_zero, List.push_toArray, List.append_toArray, List.nil_append, List.cons_append]
  go_wp2_with fail
  have hb0 : Below w.heap.size w (w.alloc (.cells #[.string ByteArray.empty, .string ByteArray.empty, .int .i64 0, .int .u32 0, .int .u32 0] 36)) := (Below.refl _ _).alloc (Nat.le_refl _) _
  refine (fields_in n _ (H.out.later hb0) h1 h2).mono ?_
  rintro e w1 ⟨b, rfl, hb, hb', hcs, hbel⟩
  have c0 : w1.cell? ⟨b, 0, none⟩ = some (.string (word n 0)) := hcs 0 (by omega)
  have c1 : w1.cell? ⟨b, 1, none⟩ = some (.string (word n 1)) := hcs 1 (by omega)
  have c2 : w1.cell? ⟨b, 2, none⟩ = some (.string (word n 2)) := hcs 2 (by omega)
  generalize hm : (words n).length = m at *
  have Hm := Lib.hid hm; clear hm
  have HC := Lib.hid hcs; clear hcs
  have hnil := fun (w : World) => Lib.run_eql_slice_nil (P := Tryd.prog) w 52 9 (some ⟨b, 0, none⟩) m m 0 0 Tryd.underlying52
  go_upto_region 4 with fail
  clear hnil
  have l0 : (0 : Int) < (m : Int) := by omega
  have l1 : (1 : Int) < (m : Int) := by omega
  have l2 : (2 : Int) < (m : Int) := by omega
  have m0 : (0 : Int) < ((word n 1).size : Int) := by omega
  have n0 : 0 < m := by omega
  go_cut [5] from 16 to 29 (fun s5 wx => s5 = .pointer (some ⟨w1.heap.size, 0, none⟩) ∧ wx = (w1.alloc (.cells #[.string (nameOf n), .string (shapeOf n), .int .i64 (gateOf n), .int .u32 0, .int .u32 0] 36)).drew)
  case first =>
    go_region_held3 (fun w' => w'.cell? ⟨b, 0, none⟩ = some (.string (word n 0)) ∧ w'.cell? ⟨b, 1, none⟩ = some (.string (word n 1)) ∧ w'.cell? ⟨b, 2, none⟩ = some (.string (word n 2)))
      (first
        | go_keep)
      (first
        | (go_at_call 33; refine (Tryd.strings_TrimPrefix _ _ _).mono ?_; rintro e w' ⟨rfl, rfl⟩))
    all_goals (go_wp2_with fail; go_meet; rw [gate_val n m0 f4 f5]; exact ⟨rfl, rfl⟩)
  case rest =>
    obtain ⟨rfl, rfl⟩ := hcut
    obtain ⟨W0, hW0⟩ : ∃ W0, (w1.alloc (.cells #[.string (nameOf n), .string (shapeOf n), .int .i64 (gateOf n), .int .u32 0, .int .u32 0] 36)).drew = W0 := ⟨_, rfl⟩
    rw [hW0]
    have HW0 := Lib.hid hW0; clear hW0
    have hC : 6 ≤ w1.heap.size := by have := H.out.2.2; have := hbel.size; simp at this; omega
    have hw0 : ∀ j, (w1.alloc (.cells #[.string (nameOf n), .string (shapeOf n), .int .i64 (gateOf n), .int .u32 0, .int .u32 0] 36)).drew.cell? ⟨w1.heap.size, j, none⟩ = #[Value.string (nameOf n), .string (shapeOf n), .int .i64 (gateOf n), .int .u32 0, .int .u32 0][j]? := fun j => World.cell?_alloc_new _ _ _ _
    have z0 : W0.cell? ⟨w1.heap.size, 0, none⟩ = some (.string (nameOf n)) := by rw [← HW0.out]; exact hw0 0
    have z1 : W0.cell? ⟨w1.heap.size, 1, none⟩ = some (.string (shapeOf n)) := by rw [← HW0.out]; exact hw0 1
    have z2 : W0.cell? ⟨w1.heap.size, 2, none⟩ = some (.int .i64 (gateOf n)) := by rw [← HW0.out]; exact hw0 2
    have z3 : W0.cell? ⟨w1.heap.size, 3, none⟩ = some (.int .u32 0) := by rw [← HW0.out]; exact hw0 3
    have z4 : W0.cell? ⟨w1.heap.size, 4, none⟩ = some (.int .u32 0) := by rw [← HW0.out]; exact hw0 4
    have hsz : W0.heap.size = w1.heap.size + 1 := by rw [← HW0.out]; simp
    have hB0 : Below w1.heap.size w1 W0 := by rw [← HW0.out]; exact ((Below.refl _ _).alloc (Nat.le_refl _) _).drew
    have hfz : ∀ j, W0.frozen? ⟨w1.heap.size, j, none⟩ = false := fun j => by rw [← HW0.out]; simp
    have c3 : 3 < m → W0.cell? ⟨b, 3, none⟩ = some (.string (word n 3)) := fun h => by rw [hB0.cell (p := ⟨b, 3, none⟩) hb']; exact HC.out 3 h
    have c4 : 4 < m → W0.cell? ⟨b, 4, none⟩ = some (.string (word n 4)) := fun h => by rw [hB0.cell (p := ⟨b, 4, none⟩) hb']; exact HC.out 4 h
    have hG0 : Gl W0 := (H.out.later hb0).below (hbel.trans (hB0.mono hbel.size)) (by simp; have := H.out.2.2; omega)
    have hbw : Below w.heap.size w W0 := (hb0.trans (hbel.mono hb0.size)).trans (hB0.mono (by have := hb0.size; have := hbel.size; omega))
    have hbr : Below (w.heap.size + 1) (w.alloc (.cells #[.string ByteArray.empty, .string ByteArray.empty, .int .i64 0, .int .u32 0, .int .u32 0] 36)) W0 := by
      have e : (w.alloc (.cells #[.string ByteArray.empty, .string ByteArray.empty, .int .i64 0, .int .u32 0, .int .u32 0] 36)).heap.size = w.heap.size + 1 := by simp
      rw [← e]; exact hbel.trans (hB0.mono hbel.size)
    have r0 : W0.cell? ⟨w.heap.size, 0, none⟩ = some (.string ByteArray.empty) := (hbr.cell (p := ⟨w.heap.size, 0, none⟩) (Nat.lt_succ_self _)).trans (World.cell?_alloc_new _ _ _ _)
    have r1 : W0.cell? ⟨w.heap.size, 1, none⟩ = some (.string ByteArray.empty) := (hbr.cell (p := ⟨w.heap.size, 1, none⟩) (Nat.lt_succ_self _)).trans (World.cell?_alloc_new _ _ _ _)
    have r2 : W0.cell? ⟨w.heap.size, 2, none⟩ = some (.int .i64 0) := (hbr.cell (p := ⟨w.heap.size, 2, none⟩) (Nat.lt_succ_self _)).trans (World.cell?_alloc_new _ _ _ _)
    have r3 : W0.cell? ⟨w.heap.size, 3, none⟩ = some (.int .u32 0) := (hbr.cell (p := ⟨w.heap.size, 3, none⟩) (Nat.lt_succ_self _)).trans (World.cell?_alloc_new _ _ _ _)
    have r4 : W0.cell? ⟨w.heap.size, 4, none⟩ = some (.int .u32 0) := (hbr.cell (p := ⟨w.heap.size, 4, none⟩) (Nat.lt_succ_self _)).trans (World.cell?_alloc_new _ _ _ _)
    have rf : ∀ j, W0.frozen? ⟨w.heap.size, j, none⟩ = false := fun j => (hbr.frozen (p := ⟨w.heap.size, j, none⟩) (Nat.lt_succ_self _)).trans (by simp)
    have hb2 : w.heap.size < w1.heap.size := by have := hbel.size; simp at this; omega
    have Hsz := Lib.hid hsz; clear hsz
    clear hB0 hw0 hbr hb hbel hb0 c0 c1 c2 f3 f4 f5 l0 l1 l2 m0 n0
    obtain rfl | rfl | rfl : m = 3 ∨ m = 4 ∨ m = 5 := by omega
    · go_wp2_with fail
      refine wp_loop_rounds 1 ?_
      rw [rounds_succ]
      go_wp2_with fail
      obtain ⟨q0, q1, q2, q3, q4⟩ := set5_cells (.string (nameOf n)) (.string (shapeOf n)) (.int .i64 (gateOf n)) (.int .u32 0) (.int .u32 0) r0 r1 r2 r3 r4
      exact ⟨_, results_get rfl rfl q0 q1 q2 q3 q4, by rw [needA_no Hm (by omega), needB_no Hm (by omega)], below_set5 hbw (Nat.le_refl _) _ _ _ _ _⟩
    · have c3' := c3 (by omega)
      go_wp2_with fail
      refine wp_loop_rounds 2 ?_
      rw [rounds_succ]
      go_wp2_with fail
      refine (SplitSeq_any _ _).mono ?_
      rintro e w' ⟨rfl, rfl⟩
      go_wp2_with fail
      obtain ⟨hsq, hri⟩ := round_start (k := 0) (X := (word n 3)) z0 z1 z2 z3 z4 (hfz 3) (hfz 4) hC hG0 (Below.refl _ _)
      have hbs := begun_size W0 0 (word n 3)
      refine (wpIn_wide (n := 6)).1 (rangeFunc_one (F := Fence.wide) (n := 6) rfl (by omega) (gf := 55) (lb := #[.pointer (some ⟨W0.heap.size + 1 + 1, 0, none⟩), .pointer (some ⟨W0.heap.size + 1, 0, none⟩), .pointer (some ⟨W0.heap.size + 1 + 2, 0, none⟩)]) rfl trivial (enters_of Tryd.func55 (by kernel_rfl) rfl)
        (split_iter 5 (by omega) (W0.heap.size + 1) (word n 3) ?small (begun W0 0 (word n 3)) hsq)
        (fun h k => h.trans k) (fun W l o o' hl _ _ _ => keepsFor_put (by have h' : W0.heap.size + 4 ≤ l := Nat.le_trans (Nat.le_of_eq hbs.symm) hl; omega) (by have := Hsz.out; omega))
        (fun pre W => RI W0 w1.heap.size W0.heap.size (W0.heap.size + 4) 0 (nameOf n) (shapeOf n) (gateOf n) (orAll pre) 0 W)
        (fun _ _ _ => False)
        ?own (fun _ _ _ _ _ hs _ _ => hs) ?state (fun _ _ _ _ hs => hs) hri 8 ?assign ?body ?done ?stop)
      case small => exact word_small n 3 h1 h2
      case own => 
        have := RI.own (W0 := W0) (C := w1.heap.size) (iB := W0.heap.size) (S := W0.heap.size + 4) (k := 0) (nm := nameOf n) (sh := shapeOf n) (g := gateOf n) (by omega) orAll (fun _ => 0)
        exact hbs ▸ this
      case state => exact fun s W v h => h.state (by have := Hsz.out; omega) (by omega) v
      case assign =>
        intro l x W K hK
        simp only [List.setIfInBounds_toArray, List.set_cons_succ, List.set_cons_zero] at hK ⊢
        gi_wp2
        exact hK
      case body =>
        rintro l pre x W hI hlen
        simp only [List.setIfInBounds_toArray, List.set_cons_succ, List.set_cons_zero]
        have hlt := hI.lt
        have hsz' := hI.sz
        have q5 := hI.ic
        have hGW : Gl W := (hG0.below hI.bel (by omega))
        have HGW := Lib.hid hGW; clear hGW
        gi_wp2_with fail
        refine ⟨trivial, (CallsIn.inRound l (callsIn_wide.2 (Bit_any x W HGW.out))).mono ?_⟩
        rintro e W' ⟨rfl, hbW⟩
        have hI' := hI.below (by omega) (by omega) hbW
        have q3 := hI'.z3
        have p3 := hI'.f3
        have q5 := hI'.ic
        have hs' := hbW.size
        gi_wp2
        refine ⟨(keeps_of_below hbW).trans (KeepsOthers.setCell _ _ _), (keepsFor_below hbW (by omega) (by have := Hsz.out; omega)).trans (keepsFor_set hC (by have := Hsz.out; omega)), ?_⟩
        show RI W0 w1.heap.size W0.heap.size (W0.heap.size + 4) 0 (nameOf n) (shapeOf n) (gateOf n) (orAll (pre ++ [x])) 0 _
        rw [orAll_snoc]; exact hI'.set3 _
      case stop => exact fun _ _ _ _ _ _ h _ => h.elim
      case done =>
        rintro D xs W hD hS hI hK
        have e3 : orAll xs = nd n 3 := orAll_eq n 3 xs hS
        have HE := Lib.hid e3; clear e3
        go_wp2_with fail
        rw [rounds_succ]
        have y0 := hI.z0
        have y1 := hI.z1
        have y2 := hI.z2
        have y3 := hI.z3
        have y4 := hI.z4
        have x0 := (hI.bel.cell (p := ⟨w.heap.size, 0, none⟩) hb2).trans r0
        have x1 := (hI.bel.cell (p := ⟨w.heap.size, 1, none⟩) hb2).trans r1
        have x2 := (hI.bel.cell (p := ⟨w.heap.size, 2, none⟩) hb2).trans r2
        have x3 := (hI.bel.cell (p := ⟨w.heap.size, 3, none⟩) hb2).trans r3
        have x4 := (hI.bel.cell (p := ⟨w.heap.size, 4, none⟩) hb2).trans r4
        have xf : ∀ j, W.frozen? ⟨w.heap.size, j, none⟩ = false := fun j => (hI.bel.frozen (p := ⟨w.heap.size, j, none⟩) hb2).trans (rf j)
        go_wp2_with fail
        obtain ⟨q0, q1, q2, q3, q4⟩ := set5_cells (.string (nameOf n)) (.string (shapeOf n)) (.int .i64 (gateOf n)) (.int .u32 (orAll xs)) (.int .u32 0) x0 x1 x2 x3 x4
        have hD2 : w.heap.size < D := by have := hbw.size; have h' : W0.heap.size + 4 ≤ D := Nat.le_trans (Nat.le_of_eq hbs.symm) hD; omega
        have hD' : w.heap.size ≠ D := by omega
        have hsW : W0.heap.size ≤ W.heap.size := hI.bel.size
        refine leave_step ((set5_keeps _ _ _ _ _ _ _).same _ _ hK rfl) ⟨_, results_get (R := w.heap.size) rfl rfl ((put_cell hD').trans q0) ((put_cell hD').trans q1) ((put_cell hD').trans q2) ((put_cell hD').trans q3) ((put_cell hD').trans q4), ?_, put_below (below_set5 (hbw.trans (hI.bel.mono (Nat.le_of_lt hb2))) (Nat.le_refl _) _ _ _ _ _) (by omega) (by have := hbw.size; simp; omega)⟩
        rw [HE.out, needA_yes Hm (by omega), needB_no Hm (by omega)]
    · have c3' := c3 (by omega)
      go_wp2_with fail
      refine wp_loop_rounds 3 ?_
      rw [rounds_succ]
      go_wp2_with fail
      refine (SplitSeq_any _ _).mono ?_
      rintro e w' ⟨rfl, rfl⟩
      go_wp2_with fail
      obtain ⟨hsq, hri⟩ := round_start (k := 0) (X := (word n 3)) z0 z1 z2 z3 z4 (hfz 3) (hfz 4) hC hG0 (Below.refl _ _)
      have hbs := begun_size W0 0 (word n 3)
      refine (wpIn_wide (n := 6)).1 (rangeFunc_one (F := Fence.wide) (n := 6) rfl (by omega) (gf := 55) (lb := #[.pointer (some ⟨W0.heap.size + 1 + 1, 0, none⟩), .pointer (some ⟨W0.heap.size + 1, 0, none⟩), .pointer (some ⟨W0.heap.size + 1 + 2, 0, none⟩)]) rfl trivial (enters_of Tryd.func55 (by kernel_rfl) rfl)
        (split_iter 5 (by omega) (W0.heap.size + 1) (word n 3) ?small (begun W0 0 (word n 3)) hsq)
        (fun h k => h.trans k) (fun W l o o' hl _ _ _ => keepsFor_put (by have h' : W0.heap.size + 4 ≤ l := Nat.le_trans (Nat.le_of_eq hbs.symm) hl; omega) (by have := Hsz.out; omega))
        (fun pre W => RI W0 w1.heap.size W0.heap.size (W0.heap.size + 4) 0 (nameOf n) (shapeOf n) (gateOf n) (orAll pre) 0 W)
        (fun _ _ _ => False)
        ?own (fun _ _ _ _ _ hs _ _ => hs) ?state (fun _ _ _ _ hs => hs) hri 8 ?assign ?body ?done ?stop)
      case small => exact word_small n 3 h1 h2
      case own => 
        have := RI.own (W0 := W0) (C := w1.heap.size) (iB := W0.heap.size) (S := W0.heap.size + 4) (k := 0) (nm := nameOf n) (sh := shapeOf n) (g := gateOf n) (by omega) orAll (fun _ => 0)
        exact hbs ▸ this
      case state => exact fun s W v h => h.state (by have := Hsz.out; omega) (by omega) v
      case assign =>
        intro l x W K hK
        simp only [List.setIfInBounds_toArray, List.set_cons_succ, List.set_cons_zero] at hK ⊢
        gi_wp2
        exact hK
      case body =>
        rintro l pre x W hI hlen
        simp only [List.setIfInBounds_toArray, List.set_cons_succ, List.set_cons_zero]
        have hlt := hI.lt
        have hsz' := hI.sz
        have q5 := hI.ic
        have hGW : Gl W := (hG0.below hI.bel (by omega))
        have HGW := Lib.hid hGW; clear hGW
        gi_wp2_with fail
        refine ⟨trivial, (CallsIn.inRound l (callsIn_wide.2 (Bit_any x W HGW.out))).mono ?_⟩
        rintro e W' ⟨rfl, hbW⟩
        have hI' := hI.below (by omega) (by omega) hbW
        have q3 := hI'.z3
        have p3 := hI'.f3
        have q5 := hI'.ic
        have hs' := hbW.size
        gi_wp2
        refine ⟨(keeps_of_below hbW).trans (KeepsOthers.setCell _ _ _), (keepsFor_below hbW (by omega) (by have := Hsz.out; omega)).trans (keepsFor_set hC (by have := Hsz.out; omega)), ?_⟩
        show RI W0 w1.heap.size W0.heap.size (W0.heap.size + 4) 0 (nameOf n) (shapeOf n) (gateOf n) (orAll (pre ++ [x])) 0 _
        rw [orAll_snoc]; exact hI'.set3 _
      case stop => exact fun _ _ _ _ _ _ h _ => h.elim
      case done =>
        rintro D xs W hD hS hI hK
        have e3 : orAll xs = nd n 3 := orAll_eq n 3 xs hS
        have HE := Lib.hid e3; clear e3
        go_wp2_with fail
        rw [rounds_succ]
        have y0 := hI.z0
        have y1 := hI.z1
        have y2 := hI.z2
        have y3 := hI.z3
        have y4 := hI.z4
        have hDW : D < W.heap.size := (Array.getElem?_eq_some_iff.1 hK).1
        have hD2 : w.heap.size < D := by have := hbw.size; have h' : W0.heap.size + 4 ≤ D := Nat.le_trans (Nat.le_of_eq hbs.symm) hD; omega
        have hlt := hI.lt
        have hszW := hI.sz
        have c4' : W.cell? ⟨b, 4, none⟩ = some (.string (word n 4)) := (hI.bel.cell (p := ⟨b, 4, none⟩) hb').trans (c4 (by omega))
        have hGW : Gl W := hG0.below hI.bel (by omega)
        have HGW := Lib.hid hGW; clear hGW
        clear c3' c3 c4 hsq hri
        go_wp2_with fail
        refine (SplitSeq_any _ _).mono ?_
        rintro e w' ⟨rfl, rfl⟩
        go_wp2_with fail
        obtain ⟨hsq2, hri2⟩ := round_start (k := 1) (X := (word n 4)) y0 y1 y2 y3 y4 hI.f3 hI.f4 hC HGW.out hI.bel
        have hbs2 := begun_size W 1 (word n 4)
        have hK2 : (begun W 1 (word n 4)).heap[D]? = some (.deferred (some [])) := ((begun_below W 1 (word n 4)).block D hDW).trans hK
        refine (wpIn_wide (n := 6)).1 (rangeFunc_one (F := Fence.wide) (n := 6) rfl (by omega) (gf := 55) (lb := #[.pointer (some ⟨W.heap.size + 1 + 1, 0, none⟩), .pointer (some ⟨W.heap.size + 1, 0, none⟩), .pointer (some ⟨W.heap.size + 1 + 2, 0, none⟩)]) rfl trivial (enters_of Tryd.func55 (by kernel_rfl) rfl)
          (split_iter 5 (by omega) (W.heap.size + 1) (word n 4) ?small (begun W 1 (word n 4)) hsq2)
          (fun h k => h.trans k) (fun W' l o o' hl _ _ _ => keepsFor_put (by have h' : W.heap.size + 4 ≤ l := Nat.le_trans (Nat.le_of_eq hbs2.symm) hl; omega) (by omega))
          (fun pre W' => RI W0 w1.heap.size W.heap.size (W.heap.size + 4) 1 (nameOf n) (shapeOf n) (gateOf n) (orAll xs) (orAll pre) W' ∧ W'.heap[D]? = some (.deferred (some [])))
          (fun _ _ _ => False)
          ?own (fun _ _ _ _ _ hs _ _ => hs) ?state (fun _ _ _ _ hs => hs) ⟨hri2, hK2⟩ 8 ?assign ?body ?done ?stop)
        case small => exact word_small n 4 h1 h2
        case own =>
          have := RI.own (W0 := W0) (C := w1.heap.size) (iB := W.heap.size) (S := W.heap.size + 4) (k := 1) (nm := nameOf n) (sh := shapeOf n) (g := gateOf n) (by omega) (fun _ => orAll xs) orAll
          have h2 : OwnFrom (W.heap.size + 4) (fun pre W' => RI W0 w1.heap.size W.heap.size (W.heap.size + 4) 1 (nameOf n) (shapeOf n) (gateOf n) (orAll xs) (orAll pre) W' ∧ W'.heap[D]? = some (.deferred (some []))) :=
            this.and (fun s A B row hs hg hr => (hg.block D (Array.getElem?_eq_some_iff.1 hs).1 (fun e => by have := (hr D e.symm).1; omega)).trans hs)
          exact hbs2 ▸ h2
        case state => exact fun s W' v h => ⟨h.1.state (by omega) (by omega) v, (kept_set h.2 rfl _ v).trans h.2⟩
        case assign =>
          intro l x W' K hK'
          simp only [List.setIfInBounds_toArray, List.set_cons_succ, List.set_cons_zero] at hK' ⊢
          gi_wp2
          exact hK'
        case body =>
          rintro l pre x W' ⟨hI2, hKD⟩ hlen
          simp only [List.setIfInBounds_toArray, List.set_cons_succ, List.set_cons_zero]
          have hlt2 := hI2.lt
          have hsz2 := hI2.sz
          have q5 := hI2.ic
          have hGW2 : Gl W' := hG0.below hI2.bel (by omega)
          have HGW2 := Lib.hid hGW2; clear hGW2
          gi_wp2_with fail
          refine ⟨trivial, (CallsIn.inRound l (callsIn_wide.2 (Bit_any x W' HGW2.out))).mono ?_⟩
          rintro e W3 ⟨rfl, hbW⟩
          have hI' := hI2.below (by omega) (by omega) hbW
          have q3 := hI'.z4
          have p3 := hI'.f4
          have q5 := hI'.ic
          have hs' := hbW.size
          have hKD' := (hbW.block D (Array.getElem?_eq_some_iff.1 hKD).1).trans hKD
          have HKD := Lib.hid hKD'; clear hKD'
          gi_wp2
          refine ⟨(keeps_of_below hbW).trans (KeepsOthers.setCell _ _ _), (keepsFor_below hbW (by omega) (by omega)).trans (keepsFor_set hC (by omega)), ?_, (kept_set HKD.out rfl _ _).trans HKD.out⟩
          show RI W0 w1.heap.size W.heap.size (W.heap.size + 4) 1 (nameOf n) (shapeOf n) (gateOf n) (orAll xs) (orAll (pre ++ [x])) _
          rw [orAll_snoc]; exact hI'.set4 _
        case stop => exact fun _ _ _ _ _ _ h _ => h.elim
        case done =>
          rintro D2 xs2 W2 hDD hS2 ⟨hI2, hKD⟩ hK'
          have e4 : orAll xs2 = nd n 4 := orAll_eq n 4 xs2 hS2
          have HE4 := Lib.hid e4; clear e4
          go_wp2_with fail
          rw [rounds_succ]
          have y0 := hI2.z0
          have y1 := hI2.z1
          have y2 := hI2.z2
          have y3 := hI2.z3
          have y4 := hI2.z4
          have x0 := (hI2.bel.cell (p := ⟨w.heap.size, 0, none⟩) hb2).trans r0
          have x1 := (hI2.bel.cell (p := ⟨w.heap.size, 1, none⟩) hb2).trans r1
          have x2 := (hI2.bel.cell (p := ⟨w.heap.size, 2, none⟩) hb2).trans r2
          have x3 := (hI2.bel.cell (p := ⟨w.heap.size, 3, none⟩) hb2).trans r3
          have x4 := (hI2.bel.cell (p := ⟨w.heap.size, 4, none⟩) hb2).trans r4
          have xf : ∀ j, W2.frozen? ⟨w.heap.size, j, none⟩ = false := fun j => (hI2.bel.frozen (p := ⟨w.heap.size, j, none⟩) hb2).trans (rf j)
          go_wp2_with fail
          obtain ⟨q0, q1, q2, q3, q4⟩ := set5_cells (.string (nameOf n)) (.string (shapeOf n)) (.int .i64 (gateOf n)) (.int .u32 (orAll xs)) (.int .u32 (orAll xs2)) x0 x1 x2 x3 x4
          have hDD2 : D < D2 := by have h' : W.heap.size + 4 ≤ D2 := Nat.le_trans (Nat.le_of_eq hbs2.symm) hDD; omega
          have hsW : W0.heap.size ≤ W2.heap.size := hI2.bel.size
          have kk := set5_keeps W2 w.heap.size (.string (nameOf n)) (.string (shapeOf n)) (.int .i64 (gateOf n)) (.int .u32 (orAll xs)) (.int .u32 (orAll xs2))
          have n1 : w.heap.size ≠ D := by omega
          have n2 : w.heap.size ≠ D2 := by omega
          have bb := below_set5 (hbw.trans (hI2.bel.mono (Nat.le_of_lt hb2))) (Nat.le_refl _) (.string (nameOf n)) (.string (shapeOf n)) (.int .i64 (gateOf n)) (.int .u32 (orAll xs)) (.int .u32 (orAll xs2))
          refine leave_step (kk.same _ _ hK' rfl) (leave_step ((World.putObj_heap_other (by omega)).trans (kk.same _ _ hKD rfl)) ⟨_, results_get (R := w.heap.size) rfl rfl ((put_cell n1).trans ((put_cell n2).trans q0)) ((put_cell n1).trans ((put_cell n2).trans q1)) ((put_cell n1).trans ((put_cell n2).trans q2)) ((put_cell n1).trans ((put_cell n2).trans q3)) ((put_cell n1).trans ((put_cell n2).trans q4)), ?_, put_below (put_below bb (by omega) bb.size) (by omega) ?_⟩)
          · rw [HE.out, HE4.out, needA_yes Hm (by omega), needB_yes Hm (by omega)]
          · rw [World.putObj_size]; exact bb.size
set_option maxRecDepth 100000 in
set_option maxHeartbeats 1000000 in
theorem Get_out (n : Int) (w : World) (h : n < 1 ∨ 64 < n) : Calls Tryd.prog 24 #[.int .i64 n] w fun e w' =>
    e = .returned (.tuple #[.agg #[.string ByteArray.empty, .string ByteArray.empty, .int .i64 0, .int .u32 0, .int .u32 0], .bool false]) ∧ Below w.heap.size w w' := by
  refine callsIn_wide.1 (callsIn_of_wp_marks (n := 6) Tryd.func24 rfl trivial (wpIn_wide.2 ?_) rfl)
  simp only [Tryd.ntmps24, List.size_toArray, List.length_cons, List.length_nil, Nat.reduceAdd, Nat.reduceSub, Array.replicate_succ, Array.replicate_zero, List.push_toArray, List.append_toArray, List.nil_append, List.cons_append]
  have hnil := fun (w : World) => Lib.run_eql_slice_nil (P := Tryd.prog) w 52 9 none 0 0 0 0 Tryd.underlying52
  have H := Lib.hid h; clear h
  go_wp2_with fail
  refine (fields_out n _ H.out).mono ?_
  rintro e w1 ⟨rfl, rfl⟩
  go_wp2_with fail
  have c := fun j => World.cell?_alloc_new w #[Value.string ByteArray.empty, .string ByteArray.empty, .int .i64 0, .int .u32 0, .int .u32 0] 36 j
  exact ⟨_, results_get rfl rfl (c 0) (c 1) (c 2) (c 3) (c 4), rfl, (Below.refl _ _).alloc (Nat.le_refl _) _⟩
end Go.Proofs.YtmjlfknkembhnaaDoor
