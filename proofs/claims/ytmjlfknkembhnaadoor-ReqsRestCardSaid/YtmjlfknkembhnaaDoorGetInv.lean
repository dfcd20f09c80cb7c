/- What stays while calls.Get goes through the parts of a list of rights: plain facts on worlds. Conditions: those named. -/
import Derived.Test.YtmjlfknkembhnaaDoorSeq
namespace Go.Proofs.YtmjlfknkembhnaaDoor
open Go Go.RowKit
/-- The five cells of a call, being made in block C; the counter's cell; all below C as it was. -/
structure RI (W0 : World) (C iB S : Nat) (k : Int) (nm sh : ByteArray) (g x y : Int) (W : World) : Prop where
  z0 : W.cell? ⟨C, 0, none⟩ = some (.string nm)
  z1 : W.cell? ⟨C, 1, none⟩ = some (.string sh)
  z2 : W.cell? ⟨C, 2, none⟩ = some (.int .i64 g)
  z3 : W.cell? ⟨C, 3, none⟩ = some (.int .u32 x)
  z4 : W.cell? ⟨C, 4, none⟩ = some (.int .u32 y)
  f3 : W.frozen? ⟨C, 3, none⟩ = false
  f4 : W.frozen? ⟨C, 4, none⟩ = false
  ic : W.cell? ⟨iB, 0, none⟩ = some (.int .i64 k)
  bel : Below C W0 W
  sz : S ≤ W.heap.size
  lt : C < iB
  ge : 6 ≤ C
theorem RI.blocks {W0 : World} {C iB S : Nat} {k : Int} {nm sh : ByteArray} {g x y : Int} {W W' : World} (h : RI W0 C iB S k nm sh g x y W)
    (hC : W'.heap[C]? = W.heap[C]?) (hi : W'.heap[iB]? = W.heap[iB]?) (hs : W.heap.size ≤ W'.heap.size) (hb : Below C W0 W') : RI W0 C iB S k nm sh g x y W' := by
  have q : ∀ j, W'.cell? ⟨C, j, none⟩ = W.cell? ⟨C, j, none⟩ := fun j => World.cell?_of_block hC
  have f : ∀ j, W'.frozen? ⟨C, j, none⟩ = W.frozen? ⟨C, j, none⟩ := fun j => World.frozen?_of_block hC
  exact ⟨by rw [q]; exact h.z0, by rw [q]; exact h.z1, by rw [q]; exact h.z2, by rw [q]; exact h.z3, by rw [q]; exact h.z4, by rw [f]; exact h.f3, by rw [f]; exact h.f4,
    by rw [World.cell?_of_block (a := ⟨iB, 0, none⟩) hi]; exact h.ic, hb, Nat.le_trans h.sz hs, h.lt, h.ge⟩
theorem RI.below {W0 : World} {C iB S : Nat} {k : Int} {nm sh : ByteArray} {g x y : Int} {W W' : World} (h : RI W0 C iB S k nm sh g x y W) (hC : C < W.heap.size) (hi : iB < W.heap.size)
    (hb : Below W.heap.size W W') : RI W0 C iB S k nm sh g x y W' :=
  h.blocks (hb.block _ hC) (hb.block _ hi) hb.size (h.bel.trans (hb.mono (by omega)))
theorem RI.own {W0 : World} {C iB S : Nat} {k : Int} {nm sh : ByteArray} {g : Int} (hi : iB < S) (x y : List ByteArray → Int) :
    OwnFrom S (fun pre W => RI W0 C iB S k nm sh g (x pre) (y pre) W) := by
  intro s W W' row hs hg hr
  have hlt := hs.lt
  have hsz := hs.sz
  have hb : ∀ j, j < S → W'.heap[j]? = W.heap[j]? := fun j hj => hg.block j (by omega) (fun e => by have := (hr j e.symm).1; omega)
  refine hs.blocks (hb _ (by omega)) (hb _ hi) hg.size ?_
  exact hs.bel.grown hg (by have := hs.bel.size; have := World.block_lt_of_cell? W _ hs.z0; omega) (fun j e => by have := (hr j e).1; omega)
theorem RI.state {W0 : World} {C iB S : Nat} {k : Int} {nm sh : ByteArray} {g x y : Int} {W : World} (h : RI W0 C iB S k nm sh g x y W) {B : Nat} (h1 : C < B) (h2 : iB ≠ B) (v : Value) :
    RI W0 C iB S k nm sh g x y (W.setCell ⟨B, 0, none⟩ v) :=
  h.blocks (Below.heap_setCell _ _ _ _ (by show C ≠ B; omega)) (Below.heap_setCell _ _ _ _ (by show iB ≠ B; omega)) (by simp) (h.bel.setCell (p := ⟨B, 0, none⟩) (by show C ≤ B; omega) _)
theorem RI.set3 {W0 : World} {C iB S : Nat} {k : Int} {nm sh : ByteArray} {g x y : Int} {W : World} (h : RI W0 C iB S k nm sh g x y W) (x' : Int) :
    RI W0 C iB S k nm sh g x' y (W.setCell ⟨C, 3, none⟩ (.int .u32 x')) := by
  have hlt := h.lt
  have q : ∀ j, j ≠ 3 → (W.setCell ⟨C, 3, none⟩ (.int .u32 x')).cell? ⟨C, j, none⟩ = W.cell? ⟨C, j, none⟩ := fun j hj => World.cell?_setCell_other _ _ _ _ (by simp <;> omega)
  exact ⟨by rw [q 0 (by decide)]; exact h.z0, by rw [q 1 (by decide)]; exact h.z1, by rw [q 2 (by decide)]; exact h.z2, World.cell?_setCell_same' _ _ _ (by simp [h.z3]), by rw [q 4 (by decide)]; exact h.z4,
    by rw [World.frozen?_setCell]; exact h.f3, by rw [World.frozen?_setCell]; exact h.f4, by rw [World.cell?_setCell_other _ _ _ _ (by simp <;> omega)]; exact h.ic,
    h.bel.setCell (p := ⟨C, 3, none⟩) (Nat.le_refl _) _, by simpa using h.sz, h.lt, h.ge⟩
theorem RI.set4 {W0 : World} {C iB S : Nat} {k : Int} {nm sh : ByteArray} {g x y : Int} {W : World} (h : RI W0 C iB S k nm sh g x y W) (y' : Int) :
    RI W0 C iB S k nm sh g x y' (W.setCell ⟨C, 4, none⟩ (.int .u32 y')) := by
  have hlt := h.lt
  have q : ∀ j, j ≠ 4 → (W.setCell ⟨C, 4, none⟩ (.int .u32 y')).cell? ⟨C, j, none⟩ = W.cell? ⟨C, j, none⟩ := fun j hj => World.cell?_setCell_other _ _ _ _ (by simp <;> omega)
  exact ⟨by rw [q 0 (by decide)]; exact h.z0, by rw [q 1 (by decide)]; exact h.z1, by rw [q 2 (by decide)]; exact h.z2, by rw [q 3 (by decide)]; exact h.z3, World.cell?_setCell_same' _ _ _ (by simp [h.z4]),
    by rw [World.frozen?_setCell]; exact h.f3, by rw [World.frozen?_setCell]; exact h.f4, by rw [World.cell?_setCell_other _ _ _ _ (by simp <;> omega)]; exact h.ic,
    h.bel.setCell (p := ⟨C, 4, none⟩) (Nat.le_refl _) _, by simpa using h.sz, h.lt, h.ge⟩
theorem keeps_of_below {W W' : World} (h : Below W.heap.size W W') : KeepsOthers W W' :=
  ⟨h.size, fun _ _ hk _ => (h.block _ (Array.getElem?_eq_some_iff.1 hk).1).trans hk⟩
theorem keepsFor_below {B : Nat} {W W' : World} (h : Below W.heap.size W W') (hB : B + 2 < W.heap.size) (hB6 : 6 ≤ B) : KeepsFor B W W' :=
  ⟨h.size, fun k hk => h.block k (by omega)⟩
theorem keepsFor_set {B C j : Nat} {W : World} {v : Value} (hC : 6 ≤ C) (h : C < B) : KeepsFor B W (W.setCell ⟨C, j, none⟩ v) :=
  ⟨by simp, fun k hk => Below.heap_setCell _ _ _ _ (by show k ≠ C; omega)⟩
theorem keepsFor_put {B l : Nat} {W : World} {o : Obj} (h : B + 2 < l) (hB : 6 ≤ B) : KeepsFor B W (W.putObj l o) :=
  ⟨by simp, fun k hk => World.putObj_heap_other (by omega)⟩
/-- All rights of some names together. -/
def orAll (l : List ByteArray) : Int := l.foldl (fun a x => Go.bits .or .u32 a (bitV x)) 0
/-- A word of a line. -/
def word (n j : Nat) : ByteArray := ⟨((words n).getD j []).toArray⟩
def nd (n j : Nat) : Int := (partsOf (word n j)).foldl (fun a l => Go.bits .or .u32 a (bitV ⟨l.toArray⟩)) 0
theorem orAll_snoc (l : List ByteArray) (x : ByteArray) : orAll (l ++ [x]) = Go.bits .or .u32 (orAll l) (bitV x) := by simp [orAll]
theorem orAll_eq (n j : Nat) (xs : List ByteArray) (h : xs.map (·.data.toList) = partsOf (word n j)) : orAll xs = nd n j := by
  unfold orAll nd
  rw [← h, List.foldl_map]
/-- The world in which a part's loop begins: the counter's cell and the iterator's three. -/
def begun (W : World) (k : Int) (X : ByteArray) : World := (((W.alloc (.cells #[.int .i64 k] 3)).alloc (.cells #[.string X] 9)).alloc (.cells #[.string comma] 9)).alloc (.cells #[.int .i64 0] 3)
theorem begun_size (W : World) (k : Int) (X : ByteArray) : (begun W k X).heap.size = W.heap.size + 4 := by simp [begun]
theorem begun_below (W : World) (k : Int) (X : ByteArray) : Below W.heap.size W (begun W k X) :=
  ((((Below.refl _ _).alloc (Nat.le_refl _) _).alloc (by simp) _).alloc (by simp; omega) _).alloc (by simp; omega) _
theorem begun_cells (W : World) (k : Int) (X : ByteArray) : (begun W k X).cell? ⟨W.heap.size, 0, none⟩ = some (.int .i64 k) ∧ (begun W k X).cell? ⟨W.heap.size + 1, 0, none⟩ = some (.string X) ∧
    (begun W k X).frozen? ⟨W.heap.size + 1, 0, none⟩ = false ∧ (begun W k X).cell? ⟨W.heap.size + 2, 0, none⟩ = some (.string comma) ∧ (begun W k X).cell? ⟨W.heap.size + 3, 0, none⟩ = some (.int .i64 0) := by
  unfold begun
  refine ⟨?_, ?_, ?_, ?_, ?_⟩ <;> simp [go_sem]
theorem round_start {W0 W : World} {C : Nat} {k : Int} {nm sh X : ByteArray} {g x y : Int} (z0 : W.cell? ⟨C, 0, none⟩ = some (.string nm)) (z1 : W.cell? ⟨C, 1, none⟩ = some (.string sh)) (z2 : W.cell? ⟨C, 2, none⟩ = some (.int .i64 g))
    (z3 : W.cell? ⟨C, 3, none⟩ = some (.int .u32 x)) (z4 : W.cell? ⟨C, 4, none⟩ = some (.int .u32 y)) (f3 : W.frozen? ⟨C, 3, none⟩ = false) (f4 : W.frozen? ⟨C, 4, none⟩ = false) (h6 : 6 ≤ C) (hG : Gl W) (bel : Below C W0 W) :
    Seq (W.heap.size + 1) X (begun W k X) ∧ RI W0 C W.heap.size (W.heap.size + 4) k nm sh g x y (begun W k X) := by
  have hC := World.block_lt_of_cell? W _ z0
  have hb := begun_below W k X
  have hs := begun_size W k X
  obtain ⟨b0, b1, b2, b3, b4⟩ := begun_cells W k X
  have q : ∀ j, (begun W k X).cell? ⟨C, j, none⟩ = W.cell? ⟨C, j, none⟩ := fun j => hb.cell (p := ⟨C, j, none⟩) hC
  have f : ∀ j, (begun W k X).frozen? ⟨C, j, none⟩ = W.frozen? ⟨C, j, none⟩ := fun j => hb.frozen (p := ⟨C, j, none⟩) hC
  obtain ⟨⟨m, hm⟩, hG2, hG3⟩ := hG.later hb
  exact ⟨⟨b1, b2, b3, b4, by omega, by have : C < W.heap.size := hC; omega, m, hm⟩,
    ⟨by rw [q]; exact z0, by rw [q]; exact z1, by rw [q]; exact z2, by rw [q]; exact z3, by rw [q]; exact z4, by rw [f]; exact f3, by rw [f]; exact f4, b0, bel.trans (hb.mono (Nat.le_of_lt hC)), by omega, hC, h6⟩⟩
theorem words_small : (List.range 64).all (fun i => (words (i + 1)).all (fun l => decide (l.length < 256))) = true := by decide +kernel
theorem word_small (n j : Nat) (h1 : 1 ≤ n) (h2 : n ≤ 64) : (word n j).size < 4294967281 := by
  have a := List.all_eq_true.1 words_small (n - 1) (List.mem_range.2 (by omega))
  rw [show n - 1 + 1 = n by omega] at a
  have e : (word n j).size = ((words n).getD j []).length := by rw [Lib.size_eq]; rfl
  rw [e, List.getD_eq_getElem?_getD]
  cases h : (words n)[j]? with
  | none => simp
  | some l =>
    have := List.all_eq_true.1 a l (List.mem_of_getElem? h)
    simp only [decide_eq_true_eq] at this
    simp only [Option.getD_some]; omega
end Go.Proofs.YtmjlfknkembhnaaDoor
