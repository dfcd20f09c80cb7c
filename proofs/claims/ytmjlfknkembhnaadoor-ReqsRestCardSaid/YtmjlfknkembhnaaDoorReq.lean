/- A request that comes in, opened; the law's short copy of it. Conditions: none. -/
import Derived.Test.YtmjlfknkembhnaaDoorOwn
import Derived.Test.YtmjlfknkembhnaaDoorBase
import Derived.Deep.Slices
import Derived.Carry
import Derived.Test.YtmjlfknkembhnaaDoorRefCheck
import Derived.Test.YtmjlfknkembhnaaDoorShapes
namespace Go.Proofs.YtmjlfknkembhnaaDoor
open Go Go.ChangeShapes Go.WideShapes Go.ChangeAt Go.RowKit
theorem laidOut : laidOutB Tryd.prog = true := by kernel_rfl
theorem cells25 : Tryd.prog.cellsOf 25 = 9 := by kernel_rfl
theorem cells22 : Tryd.prog.cellsOf 22 = 5 := by kernel_rfl
theorem cells9 : Tryd.prog.cellsOf 9 = 1 := by kernel_rfl
theorem cells23 : Tryd.prog.cellsOf 23 = 1 := by kernel_rfl
theorem cells3 : Tryd.prog.cellsOf 3 = 1 := by kernel_rfl
def readAt (w : World) (a : Addr) : Nat → List Int
  | n => (List.range n).map fun j => match w.cell? (a.add j) with | some (.int .i64 z) => z | _ => 0
set_option maxRecDepth 100000 in
theorem open_req {H : Type} {enc : TypeId × Value → H} {W : World} {sp : Nat → Bool} {v : Value} {d : DataW H} {p : List MemPlace} {base : Nat} {held : Bool}
    (hv : Value.okWide Tryd.prog W .any base 25 v) (h : DataW.Trod enc Tryd.prog W 0 sp held 25 v d p) :
    ∃ (no a0 a1 a2 a3 a4 : Int) (s t : ByteArray) (A : Option Addr) (m c : Nat) (zs : List Int),
      v = .agg #[.int .i64 no, .int .i64 a0, .int .i64 a1, .int .i64 a2, .int .i64 a3, .int .i64 a4, .string s, .string t, .slice A m c] ∧ zs.length = m ∧ m ≤ c ∧ Ints W A zs ∧ s.size ≤ maxLen ∧ t.size ≤ maxLen := by
  obtain ⟨cs, rfl, hsz⟩ := okWide_struct Tryd.underlying25 hv
  obtain ⟨l⟩ := cs
  match l, hsz.trans cells25 with
  | [c0, c1, c2, c3, c4, c5, c6, c7, c8], _ =>
    obtain ⟨fuel, hf⟩ := h
    obtain ⟨xs, n, _, hx, _, hlen, hg⟩ := DataW.trod_struct Tryd.underlying25 hf
    have g0 := hg 0 _ rfl
    have g1 := hg 1 _ rfl
    have g2 := hg 2 _ rfl
    have g3 := hg 3 _ rfl
    have g4 := hg 4 _ rfl
    have hl5 : xs.length = 5 := hlen
    rw [List.getElem?_eq_getElem (by omega)] at g0 g1 g2 g3 g4
    simp only [Value.cells] at g0 g1 g2 g3 g4
    obtain ⟨no, e0, -, -⟩ := DataW.trod_int Tryd.underlying3 g0
    obtain ⟨s, e2, -, hs⟩ := DataW.trod_string Tryd.underlying9 g2
    obtain ⟨t, e3, -, ht⟩ := DataW.trod_string Tryd.underlying9 g3
    obtain ⟨ys, k, _, _, _, hyl, hy⟩ := DataW.trod_array Tryd.underlying22 g1
    have y0 := hy 0 (by omega)
    have y1 := hy 1 (by omega)
    have y2 := hy 2 (by omega)
    have y3 := hy 3 (by omega)
    have y4 := hy 4 (by omega)
    rw [List.getElem?_eq_getElem (by omega)] at y0 y1 y2 y3 y4
    simp only [cells3, Nat.mul_one] at y0 y1 y2 y3 y4
    obtain ⟨a0, f0, -, -⟩ := DataW.trod_int Tryd.underlying3 y0
    obtain ⟨a1, f1, -, -⟩ := DataW.trod_int Tryd.underlying3 y1
    obtain ⟨a2, f2, -, -⟩ := DataW.trod_int Tryd.underlying3 y2
    obtain ⟨a3, f3, -, -⟩ := DataW.trod_int Tryd.underlying3 y3
    obtain ⟨a4, f4, -, -⟩ := DataW.trod_int Tryd.underlying3 y4
    obtain rfl : c0 = _ := List.cons.inj e0 |>.1
    obtain rfl : c6 = _ := List.cons.inj e2 |>.1
    obtain rfl : c7 = _ := List.cons.inj e3 |>.1
    obtain rfl : c1 = _ := List.cons.inj f0 |>.1
    obtain rfl : c2 = _ := List.cons.inj f1 |>.1
    obtain rfl : c3 = _ := List.cons.inj f2 |>.1
    obtain rfl : c4 = _ := List.cons.inj f3 |>.1
    obtain rfl : c5 = _ := List.cons.inj f4 |>.1
    rcases Deep.open_slice1 Tryd.underlying23 cells3 g4 with ⟨e4, -⟩ | ⟨a, len, cap, m, n', V, D, Pl, e4, hb, hle, hcap, hm, -, hi⟩
    · obtain rfl : c8 = _ := List.cons.inj e4 |>.1
      exact ⟨no, a0, a1, a2, a3, a4, s, t, none, 0, 0, [], rfl, rfl, Nat.le_refl _, fun j hj => by simp at hj, hs, ht⟩
    · obtain rfl : c8 = _ := List.cons.inj e4 |>.1
      refine ⟨no, a0, a1, a2, a3, a4, s, t, some a, len, cap, readAt W a len, rfl, by simp [readAt], hle, fun j hj => ?_, hs, ht⟩
      have hj' : j < len := by simpa [readAt] using hj
      obtain ⟨hc, htr⟩ := hi j (by rw [hm]; split <;> omega)
      obtain ⟨z, ez, -, -⟩ := DataW.trod_int Tryd.underlying3 htr
      have ez' : V j = .int .i64 z := List.cons.inj ez |>.1
      rw [ez'] at hc
      obtain ⟨b, off, spot⟩ := a
      have hspot : spot = none := by
        have h0 := (hi 0 (by rw [hm]; split <;> omega)).1
        simpa [Addr.add] using World.cell?_spot h0
      subst hspot
      have hc' : W.cell? ⟨b, off + j, none⟩ = some (.int .i64 z) := by rw [← Addr.add_lit]; exact hc
      refine ⟨b, off, rfl, ?_, ?_⟩
      · unfold World.cell? at hc'
        apply Classical.byContradiction
        intro hn
        rw [Array.getElem?_eq_none (by simpa using hn)] at hc'
        simp at hc'
      · rw [hc']
        have : (readAt W ⟨b, off, none⟩ len).getD j 0 = z := by
          rw [List.getD_eq_getElem?_getD]
          simp [readAt, hj', hc]
        rw [this]
theorem Ints.take {w : World} {A : Option Addr} {zs : List Int} (h : Ints w A zs) (n : Nat) : Ints w A (zs.take n) := fun j hj => by
  rw [List.length_take] at hj
  obtain ⟨b, off, e, hlt, hc⟩ := h j (by omega)
  refine ⟨b, off, e, hlt, ?_⟩
  rw [hc, List.getD_eq_getElem?_getD, List.getD_eq_getElem?_getD, List.getElem?_take_of_lt (by omega)]
theorem short_tail {no a0 a1 a2 a3 a4 : Int} {s t : ByteArray} {w W : World} {A' : Option Addr} {c' : Nat} {zs : List Int} {a : Act}
    (hrx : ∀ j, W.cell? ⟨w.heap.size + 1, j, none⟩ = (#[Value.int .i64 0, .int .i64 0, .int .i64 0, .int .i64 0, .int .i64 0, .int .i64 0, .string ⟨#[]⟩, .string ⟨#[]⟩, .slice none 0 0] : Array Value)[j]?)
    (hB1 : Below w.heap.size w W) (hA' : ∀ b, A'.map Addr.block = some b → w.heap.size + 1 < b) (hI : Ints W A' zs)
    (hp : a.tmps.getD 2 undef = .pointer (some ⟨w.heap.size + 1, 0, none⟩)) (hd : a.defers = []) :
    bodyPost Tryd.prog Tryd.f8 (OwnAt no a0 a1 a2 a3 a4 s t zs w) Exit.ret a
      (set9 W (w.heap.size + 1) (.int .i64 no) (.int .i64 a0) (.int .i64 a1) (.int .i64 a2) (.int .i64 a3) (.int .i64 a4) (.string s) (.string t) (.slice A' zs.length c')) := by
  obtain ⟨q0, q1, q2, q3, q4, q5, q6, q7, q8⟩ := set9_cells (.int .i64 no) (.int .i64 a0) (.int .i64 a1) (.int .i64 a2) (.int .i64 a3) (.int .i64 a4) (.string s) (.string t) (.slice A' zs.length c') (hrx 0) (hrx 1) (hrx 2) (hrx 3) (hrx 4) (hrx 5) (hrx 6) (hrx 7) (hrx 8)
  refine bodyPost_ret (results_req8 hp q0 q1 q2 q3 q4 q5 q6 q7 q8) hd ⟨A', c', rfl, ?_, ?_, fun b hb => by have := hA' b hb; omega⟩
  · have far1 : ∀ b, A'.map Addr.block = some b → w.heap.size + 1 ≠ b := fun b hb => by have := hA' b hb; omega
    unfold set9
    exact ints_setCell (ints_setCell (ints_setCell (ints_setCell (ints_setCell (ints_setCell (ints_setCell (ints_setCell (ints_setCell hI _ _ far1) _ _ far1) _ _ far1) _ _ far1) _ _ far1) _ _ far1) _ _ far1) _ _ far1) _ _ far1
  · exact below_set9 hB1 (by omega) _ _ _ _ _ _ _ _ _
set_option maxRecDepth 100000 in
set_option maxHeartbeats 2000000 in
theorem short_any (no a0 a1 a2 a3 a4 : Int) (s t : ByteArray) (A : Option Addr) (zs : List Int) (m c : Nat) (hm : zs.length = m) (hc : m ≤ c) (w : World) (hI : Ints w A zs) :
    Calls Tryd.prog 8 #[.agg #[.int .i64 no, .int .i64 a0, .int .i64 a1, .int .i64 a2, .int .i64 a3, .int .i64 a4, .string s, .string t, .slice A m c]] w (OwnAt no a0 a1 a2 a3 a4 s t (zs.take 100) w) := by
  have HI := Lib.hid hI; clear hI
  have HM := Lib.hid hm; clear hm
  by_cases hbig : 100 < m
  · have hA : ∃ ad, A = some ad := by
      obtain ⟨b, off, e, _⟩ := HI.out 0 (by have := HM.out; omega)
      exact ⟨_, e⟩
    obtain ⟨ad, rfl⟩ := hA
    have hcc : 100 ≤ c := by omega
    have hbi : (100 : Int) < (m : Int) := by omega
    have HL := Lib.hid (show (zs.take 100).length = 100 by rw [List.length_take, HM.out]; omega)
    have HK := Lib.hid (HI.out.take 100)
    generalize zs.take 100 = ys at HL HK ⊢
    go_enter Tryd.func8, Tryd.ntmps8
    go_wp2_with fail
    refine (own_any no a0 a1 a2 a3 a4 s t (some ad) ys 100 c HL.out (by omega) _ (HK.out.below (((Below.refl _ w).alloc (Nat.le_refl _) _).alloc (by simp) _))).mono ?_
    rintro e w1 ⟨A', c', rfl, hI', hB, hA'⟩
    have hB1 : Below w.heap.size w w1 := (((Below.refl _ w).alloc (Nat.le_refl _) _).alloc (by simp) _).trans (hB.mono (by simp <;> omega))
    have hrx : ∀ j, w1.cell? ⟨w.heap.size + 1, j, none⟩ = (#[Value.int .i64 0, .int .i64 0, .int .i64 0, .int .i64 0, .int .i64 0, .int .i64 0, .string ⟨#[]⟩, .string ⟨#[]⟩, .slice none 0 0] : Array Value)[j]? := fun j => by
      rw [hB.cell (p := ⟨w.heap.size + 1, j, none⟩) (by simp)]
      simp [go_sem]
    have hgx : ∀ j, w1.frozen? ⟨w.heap.size + 1, j, none⟩ = false := fun j => by
      rw [hB.frozen (p := ⟨w.heap.size + 1, j, none⟩) (by simp)]
      simp [go_sem]
    clear hB
    simp only [World.size_alloc] at hA'
    have HI' := Lib.hid hI'; clear hI'
    go_wp2
    exact short_tail hrx hB1 (fun b hb => by have := hA' b hb; omega) HI'.out rfl rfl
  · have hbi : ¬ (100 : Int) < (m : Int) := by omega
    have ht : zs.take 100 = zs := List.take_of_length_le (by rw [HM.out]; omega)
    rw [ht]
    go_enter Tryd.func8, Tryd.ntmps8
    go_wp2_with fail
    refine (own_any no a0 a1 a2 a3 a4 s t A zs m c HM.out (by omega) _ (HI.out.below (((Below.refl _ w).alloc (Nat.le_refl _) _).alloc (by simp) _))).mono ?_
    rintro e w1 ⟨A', c', rfl, hI', hB, hA'⟩
    have hB1 : Below w.heap.size w w1 := (((Below.refl _ w).alloc (Nat.le_refl _) _).alloc (by simp) _).trans (hB.mono (by simp <;> omega))
    have hrx : ∀ j, w1.cell? ⟨w.heap.size + 1, j, none⟩ = (#[Value.int .i64 0, .int .i64 0, .int .i64 0, .int .i64 0, .int .i64 0, .int .i64 0, .string ⟨#[]⟩, .string ⟨#[]⟩, .slice none 0 0] : Array Value)[j]? := fun j => by
      rw [hB.cell (p := ⟨w.heap.size + 1, j, none⟩) (by simp)]
      simp [go_sem]
    have hgx : ∀ j, w1.frozen? ⟨w.heap.size + 1, j, none⟩ = false := fun j => by
      rw [hB.frozen (p := ⟨w.heap.size + 1, j, none⟩) (by simp)]
      simp [go_sem]
    clear hB
    simp only [World.size_alloc] at hA'
    have HI' := Lib.hid hI'; clear hI'
    go_wp2
    exact short_tail hrx hB1 (fun b hb => by have := hA' b hb; omega) HI'.out rfl rfl
theorem Check_R {no a0 a1 a2 a3 a4 : Int} {s t : ByteArray} {zs : List Int} {m : Nat} {R : Int} (hR : Hid (checkP no [a0, a1, a2, a3, a4] s.size t.size zs = R)) (hs : s.size ≤ 9223372036854775807) (ht : t.size ≤ 9223372036854775807) (hm : Hid (zs.length = m)) (hl : m ≤ 100) (A : Option Addr) (c : Nat) (w : World) (hG : Gl w) (hI : Ints w A zs) :
    Calls Tryd.prog 9 #[.agg #[.int .i64 no, .int .i64 a0, .int .i64 a1, .int .i64 a2, .int .i64 a3, .int .i64 a4, .string s, .string t, .slice A m c]] w fun e w' => e = .returned (.int .i64 R) ∧ Below w.heap.size w w' := by
  have h := Check_any no a0 a1 a2 a3 a4 s t hs ht A zs m c hm.out (by omega) w hG hI
  rw [hR.out] at h; exact h
theorem rCheck_R {no a0 a1 a2 a3 a4 : Int} {s t : ByteArray} {zs : List Int} {m : Nat} {R : Int} (hR : Hid (checkP no [a0, a1, a2, a3, a4] s.size t.size zs = R)) (hm : Hid (zs.length = m)) (hl : m ≤ 100) (A : Option Addr) (c : Nat) (w : World) (hI : Ints w A zs) :
    Calls Tryd.prog 11 #[.agg #[.int .i64 no, .int .i64 a0, .int .i64 a1, .int .i64 a2, .int .i64 a3, .int .i64 a4, .string s, .string t, .slice A m c]] w fun e w' => e = .returned (.int .i64 R) ∧ Below w.heap.size w w' := by
  have e := hm.out
  subst e
  have h := rcheck_any no a0 a1 a2 a3 a4 s t A zs c (by omega) w hI
  rw [check_eq, hR.out] at h; exact h
theorem ints_set9 {W : World} {A : Option Addr} {zs : List Int} {R : Nat} (hI : Ints W A zs) (far1 : ∀ b, A.map Addr.block = some b → R ≠ b) (v0 v1 v2 v3 v4 v5 v6 v7 v8 : Value) : Ints (set9 W R v0 v1 v2 v3 v4 v5 v6 v7 v8) A zs := by
  unfold set9
  exact ints_setCell (ints_setCell (ints_setCell (ints_setCell (ints_setCell (ints_setCell (ints_setCell (ints_setCell (ints_setCell hI _ _ far1) _ _ far1) _ _ far1) _ _ far1) _ _ far1) _ _ far1) _ _ far1) _ _ far1) _ _ far1
/-- Own, for a list of a length that is a letter. -/
def OwnM (no a0 a1 a2 a3 a4 : Int) (s t : ByteArray) (zs : List Int) (m : Nat) (w : World) (e : Ending) (w' : World) : Prop :=
  ∃ (A : Option Addr) (c : Nat), e = .returned (.agg #[.int .i64 no, .int .i64 a0, .int .i64 a1, .int .i64 a2, .int .i64 a3, .int .i64 a4, .string s, .string t, .slice A m c]) ∧ Hid (Ints w' A zs) ∧ Below w.heap.size w w' ∧ ∀ b, A.map Addr.block = some b → w.heap.size ≤ b
theorem own_m (no a0 a1 a2 a3 a4 : Int) (s t : ByteArray) (A : Option Addr) (zs : List Int) (m c : Nat) (hm : Hid (zs.length = m)) (hl : m ≤ 100) (w : World) (hI : Ints w A zs) :
    Calls Tryd.prog 10 #[.agg #[.int .i64 no, .int .i64 a0, .int .i64 a1, .int .i64 a2, .int .i64 a3, .int .i64 a4, .string s, .string t, .slice A m c]] w (OwnM no a0 a1 a2 a3 a4 s t zs m w) := by
  refine (own_any no a0 a1 a2 a3 a4 s t A zs m c hm.out (by omega) w hI).mono ?_
  rintro e w' ⟨A', c', rfl, h1, h2, h3⟩
  exact ⟨A', c', by rw [hm.out], Lib.hid h1, h2, h3⟩
theorem short_m (no a0 a1 a2 a3 a4 : Int) (s t : ByteArray) (A : Option Addr) (zs : List Int) (m c k : Nat) (hm : zs.length = m) (hc : m ≤ c) (hk : Hid ((zs.take 100).length = k)) (w : World) (hI : Ints w A zs) :
    Calls Tryd.prog 8 #[.agg #[.int .i64 no, .int .i64 a0, .int .i64 a1, .int .i64 a2, .int .i64 a3, .int .i64 a4, .string s, .string t, .slice A m c]] w (OwnM no a0 a1 a2 a3 a4 s t (zs.take 100) k w) := by
  refine (short_any no a0 a1 a2 a3 a4 s t A zs m c hm hc w hI).mono ?_
  rintro e w' ⟨A', c', rfl, h1, h2, h3⟩
  exact ⟨A', c', by rw [hk.out], Lib.hid h1, h2, h3⟩
end Go.Proofs.YtmjlfknkembhnaaDoor
