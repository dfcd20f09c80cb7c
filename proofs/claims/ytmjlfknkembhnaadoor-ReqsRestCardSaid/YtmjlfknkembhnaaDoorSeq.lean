/- strings.SplitSeq at a separator of one byte: which parts its iterator hands on. Conditions: the text is shorter than 4294967281 bytes. -/
import Derived.RangeFuncNested
import Derived.RangeFuncBound
import Derived.RangeFuncCalls
import Derived.RangeFuncLeaves
import Derived.Shelf.Abstract
import Derived.Shelf.RegionOpen
import Derived.WalkKit
import Derived.OwnWalkIn
import Derived.TacticsInMore
import Derived.LoopNIn
import Derived.LoopIn
import Derived.Test.YtmjlfknkembhnaaDoorIter
import Derived.Test.YtmjlfknkembhnaaDoorBit
namespace Go.Proofs.YtmjlfknkembhnaaDoor
open Go Go.RowKit Go.Shelf
attribute [local go_sem] Oper.semAt_some
def comma : ByteArray := { data := #[44] }
/-- What a round keeps: the package-level variables, the iterator's own three cells. -/
def KeepsFor (B : Nat) (W W' : World) : Prop := W.heap.size ≤ W'.heap.size ∧ ∀ k, k < 6 ∨ (B ≤ k ∧ k ≤ B + 2) → W'.heap[k]? = W.heap[k]?
theorem KeepsFor.trans {B : Nat} {a b c : World} (h : KeepsFor B a b) (k : KeepsFor B b c) : KeepsFor B a c :=
  ⟨Nat.le_trans h.1 k.1, fun i hi => (k.2 i hi).trans (h.2 i hi)⟩
theorem KeepsFor.cell {B : Nat} {W W' : World} (h : KeepsFor B W W') {p : Addr} (hp : p.block < 6 ∨ (B ≤ p.block ∧ p.block ≤ B + 2)) : W'.cell? p = W.cell? p := World.cell?_of_block (w := W) (h.2 _ hp)
theorem KeepsFor.frozen {B : Nat} {W W' : World} (h : KeepsFor B W W') {p : Addr} (hp : p.block < 6 ∨ (B ≤ p.block ∧ p.block ≤ B + 2)) : W'.frozen? p = W.frozen? p := World.frozen?_of_block (w := W) (h.2 _ hp)
/-- The iterator's cells. -/
structure Seq (B : Nat) (t : ByteArray) (w : World) : Prop where
  s : w.cell? ⟨B, 0, none⟩ = some (.string t)
  fz : w.frozen? ⟨B, 0, none⟩ = false
  sep : w.cell? ⟨B + 1, 0, none⟩ = some (.string comma)
  save : w.cell? ⟨B + 2, 0, none⟩ = some (.int .i64 0)
  lt : B + 2 < w.heap.size
  ge : 6 ≤ B
  gl : ∃ m, w.cell? ⟨2, 0, none⟩ = some (.int .i64 m)
theorem Seq.keeps {B : Nat} {t : ByteArray} {w w' : World} (h : Seq B t w) (k : KeepsFor B w w') : Seq B t w' := by
  have hge := h.ge
  obtain ⟨m, hm⟩ := h.gl
  exact ⟨by rw [k.cell (.inr ⟨Nat.le_refl _, by simp⟩)]; exact h.s, by rw [k.frozen (.inr ⟨Nat.le_refl _, by simp⟩)]; exact h.fz,
    by rw [k.cell (.inr ⟨by simp, by simp⟩)]; exact h.sep, by rw [k.cell (.inr ⟨by simp, by simp⟩)]; exact h.save, Nat.lt_of_lt_of_le h.lt k.1, hge,
    ⟨m, by rw [k.cell (.inl (by decide))]; exact hm⟩⟩
theorem Seq.set {B : Nat} {t : ByteArray} {w : World} (h : Seq B t w) (t' : ByteArray) : Seq B t' (w.setCell ⟨B, 0, none⟩ (.string t')) := by
  have hge := h.ge
  obtain ⟨m, hm⟩ := h.gl
  exact ⟨World.cell?_setCell_same' _ _ _ (by simp [h.s]), by rw [World.frozen?_setCell]; exact h.fz,
    by rw [World.cell?_setCell_other _ _ _ _ (by simp)]; exact h.sep, by rw [World.cell?_setCell_other _ _ _ _ (by simp)]; exact h.save, by simpa using h.lt, hge,
    ⟨m, by rw [World.cell?_setCell_other _ _ _ _ (by simp)]; exact hm⟩⟩
theorem Seq.below {B : Nat} {t : ByteArray} {w w' : World} (h : Seq B t w) (k : Below w.heap.size w w') : Seq B t w' := by
  have hlt := h.lt
  have hge := h.ge
  exact h.keeps ⟨k.size, fun i hi => k.block i (by omega)⟩
/-- How much is left of the text. -/
def leftOf (B : Nat) (w : World) : Nat := match w.cell? ⟨B, 0, none⟩ with | some (.string t) => t.size | _ => 0
theorem leftOf_eq {B : Nat} {t : ByteArray} {w : World} (h : Seq B t w) : leftOf B w = t.size := by unfold leftOf; rw [h.s]
abbrev partsOf (s : ByteArray) : List (List UInt8) := spl 44 s.data.toList
theorem index_comma (t : ByteArray) : Lib.index t.data.toList comma.data.toList = Lib.indexByte t.data.toList 44 := Lib.index_one _ _
set_option maxHeartbeats 800000 in
theorem split_iter (n : Nat) (hn : 1 ≤ n) (B : Nat) (s : ByteArray) (hs : s.size < 4294967281) (w : World) (hq : Seq B s w) :
    IterState Fence.wide n Tryd.prog 55 #[.pointer (some ⟨B + 1, 0, none⟩), .pointer (some ⟨B, 0, none⟩), .pointer (some ⟨B + 2, 0, none⟩)] (fun x : ByteArray => #[.string x]) (KeepsFor B) ⟨B, 0, none⟩
      (fun xs => xs.map (·.data.toList) = partsOf s) (fun pre => pre.map (·.data.toList) <+: partsOf s) (partsOf s).length w := by
  intro l J Jx W hbel hJa hJxa hJc hJxc hY h0
  have hqW : Seq B s W := hq.below hbel
  refine callsIn_of_wp Tryd.func55 rfl trivial ?_ rfl
  simp only [Tryd.ntmps55, List.size_toArray, List.length_cons, List.length_nil, Nat.reduceAdd, Nat.reduceSub, Array.replicate_succ, Array.replicate_zero, List.push_toArray, List.append_toArray, List.nil_append, List.cons_append]
  have q1 := hqW.sep
  have hcz : comma.size = 1 := rfl
  gi_wp2
  clear q1
  gi_loopw [7] (fun _ wr => ∃ (pre : List ByteArray) (t : ByteArray), pre.map (·.data.toList) ++ partsOf t = partsOf s ∧ J pre wr ∧ Seq B t wr ∧ t.size ≤ s.size)
    (fun _ wr => leftOf B wr)
  case atStart => exact ⟨[], s, rfl, h0, hqW, Nat.le_refl _⟩
  case round =>
    obtain ⟨pre, t, hx, hJ, hq, hts⟩ := hrel
    have Hx := Lib.hid hx; clear hx
    have q1 := hq.s
    have q2 := hq.sep
    have q3 := hq.save
    obtain ⟨m, q4⟩ := hq.gl
    have hlen : pre.length < (partsOf s).length := by
      have h1 : 0 < (partsOf t).length := List.length_pos_iff.2 (spl_ne 44 t.data.toList)
      have h2 := congrArg List.length Hx.out
      simp only [List.length_append, List.length_map] at h2; omega
    gi_wp2_with fail
    refine ⟨trivial, ?_⟩
    refine (callsIn_wide.2 (Tryd.strings_Index t comma m _ (by omega) q4)).mono ?_
    rintro e W3 ⟨rfl, rfl⟩
    rw [index_comma]
    have hge := Lib.indexByte_ge t.data.toList 44
    by_cases hm : Lib.indexByte t.data.toList 44 = -1
    · have hsp := spl_miss 44 t.data.toList hm
      have Hs := Lib.hid hsp; clear hsp
      rw [hm]
      clear hm
      obtain ⟨fn, tmps, assign, body, hy, hR⟩ := hY pre t W3 hJ hlen
      gi_wp2
      refine hR.mono ?_
      rintro e W4 (⟨rfl, hJ4, hk4⟩ | ⟨rfl, hJ4⟩)
      · gi_wp2
        go_end0
        exact ⟨⟨_, rfl⟩, .inl ⟨pre ++ [t], by rw [List.map_append, ← Hx.out, show partsOf t = [t.data.toList] from Hs.out]; rfl, hJ4⟩⟩
      · gi_wp2
        go_end0
        exact ⟨⟨_, rfl⟩, .inr ⟨pre ++ [t], by rw [List.map_append, ← Hx.out, show partsOf t = [t.data.toList] from Hs.out]; exact List.prefix_refl _, hJ4⟩⟩
    · obtain ⟨i, hi⟩ : ∃ i : Nat, Lib.indexByte t.data.toList 44 = i := ⟨(Lib.indexByte t.data.toList 44).toNat, by omega⟩
      have hit : i < t.size := by rw [Lib.size_eq]; exact (List.getElem?_eq_some_iff.1 (Lib.indexByte_some hi).1).1
      have hsp := spl_hit 44 t.data.toList i hi
      have Hs := Lib.hid hsp; clear hsp
      rw [hi]
      clear hi hm
      obtain ⟨fn, tmps, assign, body, hy, hR⟩ := hY pre (t.extract 0 i) W3 hJ hlen
      gi_wp2
      refine hR.mono ?_
      rintro e W4 (⟨rfl, hJ4, hk4⟩ | ⟨rfl, hJ4⟩)
      · have hq4 := hq.keeps hk4
        have p1 := hq4.s
        have p2 := hq4.sep
        have p3 := hq4.fz
        gi_wp2
        go_roundw
        case rel => exact ⟨pre ++ [t.extract 0 i], t.extract (i + 1) t.size, by show _ ++ spl 44 (t.extract (i + 1) t.size).data.toList = _; rw [Lib.extract_to_end, List.map_append, ← Hx.out, show partsOf t = _ from Hs.out, List.map_cons, List.map_nil, Lib.extract_from_zero, List.append_assoc]; rfl, hJc _ _ _ hJ4, hq4.set _, by rw [ByteArray.size_extract]; omega⟩
        case measure => rw [leftOf_eq (hq4.set _), leftOf_eq hq, ByteArray.size_extract]; omega
      · gi_wp2
        refine bodyPost_ret (results_none rfl _ _ _) rfl ?_
        exact ⟨⟨_, rfl⟩, .inr ⟨pre ++ [t.extract 0 i], by rw [List.map_append, ← Hx.out, show partsOf t = _ from Hs.out, List.map_cons, List.map_nil, Lib.extract_from_zero]; exact List.prefix_append_right_inj _ |>.2 ⟨_, rfl⟩, hJ4⟩⟩
set_option maxHeartbeats 400000 in
/-- SplitSeq makes three cells and a function value over them. -/
theorem SplitSeq_any (s : ByteArray) (w : World) : Calls Tryd.prog 34 #[.string s, .string comma] w fun e w' =>
    e = .returned (.func (.func 55) #[] #[.pointer (some ⟨w.heap.size + 1, 0, none⟩), .pointer (some ⟨w.heap.size, 0, none⟩), .pointer (some ⟨w.heap.size + 2, 0, none⟩)]) ∧
      w' = ((w.alloc (.cells #[.string s] 9)).alloc (.cells #[.string comma] 9)).alloc (.cells #[.int .i64 0] 3) := by
  go_enter Tryd.func34, Tryd.ntmps34
  go_wp2
  go_ret
  exact ⟨rfl, rfl⟩
end Go.Proofs.YtmjlfknkembhnaaDoor
