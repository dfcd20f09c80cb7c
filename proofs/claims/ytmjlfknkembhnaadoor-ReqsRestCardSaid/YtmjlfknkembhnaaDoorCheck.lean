/- reqs.check: what a request is answered. Conditions: those named. -/
import Derived.Test.YtmjlfknkembhnaaDoorGet
import Derived.Test.YtmjlfknkembhnaaDoorNumbers
import Derived.Test.YtmjlfknkembhnaaDoorList
namespace Go.Proofs.YtmjlfknkembhnaaDoor
open Go Go.RowKit
def sby : ByteArray := { data := #[83, 66, 89] }
def tee : ByteArray := { data := #[84] }
theorem shape_all : (List.range 64).all (fun i => decide ((shapeOf (i + 1)).size ≤ 5) && (shapeOf (i + 1)).data.toList.all (fun b => decide (b.toNat < 128))) = true := by decide +kernel
theorem shape_ok (n : Nat) (h1 : 1 ≤ n) (h2 : n ≤ 64) : (shapeOf n).size ≤ 5 ∧ ascii (shapeOf n) := by
  have a := List.all_eq_true.1 shape_all (n - 1) (List.mem_range.2 (by omega))
  rw [show n - 1 + 1 = n by omega] at a
  simp only [Bool.and_eq_true, decide_eq_true_eq, List.all_eq_true] at a
  exact ⟨a.1, fun j h => a.2 _ (List.mem_of_getElem? (byte_at _ j h))⟩
theorem ascii_sby : ascii sby := fun j h => by
  have := List.mem_of_getElem? (byte_at sby j h)
  simp [sby] at this
  rcases this with e | e | e <;> rw [show (sby[j]'h) = _ from e] <;> decide
theorem ascii_tee : ascii tee := fun j h => by
  have := List.mem_of_getElem? (byte_at tee j h)
  simp [tee] at this
  rw [show (tee[j]'h) = _ from this]; decide
/-- What a request is answered, of a shape. -/
def fitsP (sh : ByteArray) (A : List Int) (s t : Nat) (zs : List Int) : Bool := nums sh.data.toList A && (textP sh sby s && (textP sh tee t && listP sh zs))
def checkP (no : Int) (A : List Int) (s t : Nat) (zs : List Int) : Int := if no < 1 ∨ 64 < no then 78 else if fitsP (shapeOf no.toNat) A s t zs then 0 else 22
set_option maxRecDepth 100000 in
set_option maxHeartbeats 4000000 in
theorem check_any (no a0 a1 a2 a3 a4 : Int) (s t : ByteArray) (hs : s.size ≤ 9223372036854775807) (ht : t.size ≤ 9223372036854775807) (A : Option Addr) (zs : List Int) (c : Nat) (hl : zs.length ≤ 1000) (w : World) (hG : Gl w) (hI : Ints w A zs) :
    Calls Tryd.prog 20 #[.agg #[.int .i64 no, .int .i64 a0, .int .i64 a1, .int .i64 a2, .int .i64 a3, .int .i64 a4, .string s, .string t, .slice A zs.length c]] w fun e w' =>
      e = .returned (.int .i64 (checkP no [a0, a1, a2, a3, a4] s.size t.size zs)) ∧ Below w.heap.size w w' := by
  generalize hR : checkP no [a0, a1, a2, a3, a4] s.size t.size zs = R
  unfold checkP at hR
  have HG := Lib.hid hG; clear hG
  have HI := Lib.hid hI; clear hI
  by_cases hno : no < 1 ∨ 64 < no
  · rw [if_pos hno] at hR
    have HR := Lib.hid hR; clear hR
    have HNO := Lib.hid hno; clear hno
    go_enter Tryd.func20, Tryd.ntmps20
    go_wp2_with fail
    refine (Get_out _ _ HNO.out).mono ?_
    rintro e w1 ⟨rfl, hb⟩
    go_wp2_with fail
    go_ret
    have h0 : Below w.heap.size w (w.alloc (.cells #[.int .i64 no, .int .i64 a0, .int .i64 a1, .int .i64 a2, .int .i64 a3, .int .i64 a4, .string s, .string t, .slice A zs.length c] 25)) := (Below.refl _ _).alloc (Nat.le_refl _) _
    exact ⟨by rw [← HR.out]; rfl, (h0.trans (hb.mono h0.size)).alloc (by have := h0.size; have := hb.size; omega) _⟩
  · rw [if_neg hno] at hR
    obtain ⟨n, rfl⟩ : ∃ n : Nat, no = n := ⟨no.toNat, by omega⟩
    rw [Int.toNat_natCast] at hR
    have h1 : 1 ≤ n := by omega
    have h2 : n ≤ 64 := by omega
    obtain ⟨hsh, hasc⟩ := shape_ok n h1 h2
    have HASC := Lib.hid hasc; clear hasc
    unfold fitsP at hR
    have cN := fun w => numbers_any (shapeOf n) hsh a0 a1 a2 a3 a4 w
    have cS := fun w => text_any (shapeOf n) sby s HASC.out ascii_sby hs w
    have cT := fun w => text_any (shapeOf n) tee t HASC.out ascii_tee ht w
    have cL := fun w hI => list_any (shapeOf n) (by omega) HASC.out A zs c w hl hI
    generalize nums (shapeOf n).data.toList [a0, a1, a2, a3, a4] = b1 at *
    generalize textP (shapeOf n) sby s.size = b2 at *
    generalize textP (shapeOf n) tee t.size = b3 at *
    generalize listP (shapeOf n) zs = b4 at *
    have CN := Lib.hid cN; clear cN
    have CS := Lib.hid cS; clear cS
    have CT := Lib.hid cT; clear cT
    have CL := Lib.hid cL; clear cL
    have HR := Lib.hid hR; clear hR hno
    go_enter Tryd.func20, Tryd.ntmps20
    go_wp2_with fail
    have hbx : Below w.heap.size w (w.alloc (.cells #[Value.int .i64 n, .int .i64 a0, .int .i64 a1, .int .i64 a2, .int .i64 a3, .int .i64 a4, .string s, .string t, .slice A zs.length c] 25)) := (Below.refl _ _).alloc (Nat.le_refl _) _
    have hrx : ∀ j, (w.alloc (.cells #[Value.int .i64 n, .int .i64 a0, .int .i64 a1, .int .i64 a2, .int .i64 a3, .int .i64 a4, .string s, .string t, .slice A zs.length c] 25)).cell? ⟨w.heap.size, j, none⟩ = (#[Value.int .i64 n, .int .i64 a0, .int .i64 a1, .int .i64 a2, .int .i64 a3, .int .i64 a4, .string s, .string t, .slice A zs.length c] : Array Value)[j]? := fun j => World.cell?_alloc_new _ _ _ _
    have hsx : (w.alloc (.cells #[Value.int .i64 n, .int .i64 a0, .int .i64 a1, .int .i64 a2, .int .i64 a3, .int .i64 a4, .string s, .string t, .slice A zs.length c] 25)).heap.size = w.heap.size + 1 := by simp
    generalize w.alloc (.cells #[Value.int .i64 n, .int .i64 a0, .int .i64 a1, .int .i64 a2, .int .i64 a3, .int .i64 a4, .string s, .string t, .slice A zs.length c] 25) = W0 at *
    refine (Get_in n _ (HG.out.later hbx) h1 h2).mono ?_
    rintro e W1 ⟨rfl, hb1⟩
    have hr1 : ∀ j, W1.cell? ⟨w.heap.size, j, none⟩ = (#[Value.int .i64 n, .int .i64 a0, .int .i64 a1, .int .i64 a2, .int .i64 a3, .int .i64 a4, .string s, .string t, .slice A zs.length c] : Array Value)[j]? := fun j => (hb1.cell (p := ⟨w.heap.size, j, none⟩) (by show w.heap.size < _; omega)).trans (hrx j)
    have hs1 : w.heap.size < W1.heap.size := by have := hb1.size; omega
    have hbw1 := hbx.trans (hb1.mono hbx.size)
    clear hrx hbx
    go_wp2_with fail
    have hc2 : ∀ j, (W1.alloc (.cells #[Value.string (nameOf n), .string (shapeOf n), .int .i64 (gateOf n), .int .u32 (needA n), .int .u32 (needB n)] 36)).cell? ⟨W1.heap.size, j, none⟩ = (#[Value.string (nameOf n), .string (shapeOf n), .int .i64 (gateOf n), .int .u32 (needA n), .int .u32 (needB n)] : Array Value)[j]? := fun j => World.cell?_alloc_new _ _ _ _
    have hb2 : Below W1.heap.size W1 (W1.alloc (.cells #[Value.string (nameOf n), .string (shapeOf n), .int .i64 (gateOf n), .int .u32 (needA n), .int .u32 (needB n)] 36)) := (Below.refl _ _).alloc (Nat.le_refl _) _
    have hr2 : ∀ j, (W1.alloc (.cells #[Value.string (nameOf n), .string (shapeOf n), .int .i64 (gateOf n), .int .u32 (needA n), .int .u32 (needB n)] 36)).cell? ⟨w.heap.size, j, none⟩ = (#[Value.int .i64 n, .int .i64 a0, .int .i64 a1, .int .i64 a2, .int .i64 a3, .int .i64 a4, .string s, .string t, .slice A zs.length c] : Array Value)[j]? := fun j => (hb2.cell (p := ⟨w.heap.size, j, none⟩) hs1).trans (hr1 j)
    have hs2 : W1.heap.size < (W1.alloc (.cells #[Value.string (nameOf n), .string (shapeOf n), .int .i64 (gateOf n), .int .u32 (needA n), .int .u32 (needB n)] 36)).heap.size := by simp
    have hbw2 := hbw1.trans (hb2.mono (Nat.le_of_lt hs1))
    generalize W1.alloc (.cells #[Value.string (nameOf n), .string (shapeOf n), .int .i64 (gateOf n), .int .u32 (needA n), .int .u32 (needB n)] 36) = W2 at *
    clear hr1 hb2 hb1
    generalize W1.heap.size = C at *
    refine (CN.out _).mono ?_
    rintro e W3 ⟨rfl, hb3⟩
    have hr3 : ∀ j, W3.cell? ⟨w.heap.size, j, none⟩ = (#[Value.int .i64 n, .int .i64 a0, .int .i64 a1, .int .i64 a2, .int .i64 a3, .int .i64 a4, .string s, .string t, .slice A zs.length c] : Array Value)[j]? := fun j => (hb3.cell (p := ⟨w.heap.size, j, none⟩) (by show w.heap.size < _; omega)).trans (hr2 j)
    have hc3 : ∀ j, W3.cell? ⟨C, j, none⟩ = (#[Value.string (nameOf n), .string (shapeOf n), .int .i64 (gateOf n), .int .u32 (needA n), .int .u32 (needB n)] : Array Value)[j]? := fun j => (hb3.cell (p := ⟨C, j, none⟩) (by show C < _; omega)).trans (hc2 j)
    have hs3 : C < W3.heap.size := by have := hb3.size; omega
    have hbw3 := hbw2.trans (hb3.mono (by omega))
    clear hr2 hc2
    cases b1 with
    | false =>
      go_wp2_with fail
      go_ret
      exact ⟨by rw [← HR.out]; rfl, hbw3⟩
    | true =>
      go_wp2_with fail
      refine (CS.out _).mono ?_
      rintro e W4 ⟨rfl, hb4⟩
      have hr4 : ∀ j, W4.cell? ⟨w.heap.size, j, none⟩ = (#[Value.int .i64 n, .int .i64 a0, .int .i64 a1, .int .i64 a2, .int .i64 a3, .int .i64 a4, .string s, .string t, .slice A zs.length c] : Array Value)[j]? := fun j => (hb4.cell (p := ⟨w.heap.size, j, none⟩) (by show w.heap.size < _; omega)).trans (hr3 j)
      have hc4 : ∀ j, W4.cell? ⟨C, j, none⟩ = (#[Value.string (nameOf n), .string (shapeOf n), .int .i64 (gateOf n), .int .u32 (needA n), .int .u32 (needB n)] : Array Value)[j]? := fun j => (hb4.cell (p := ⟨C, j, none⟩) (by show C < _; omega)).trans (hc3 j)
      have hs4 : C < W4.heap.size := by have := hb4.size; omega
      have hbw4 := hbw3.trans (hb4.mono (by omega))
      clear hr3 hc3
      cases b2 with
      | false =>
        go_wp2_with fail
        go_ret
        exact ⟨by rw [← HR.out]; rfl, hbw4⟩
      | true =>
        go_wp2_with fail
        refine (CT.out _).mono ?_
        rintro e W5 ⟨rfl, hb5⟩
        have hr5 : ∀ j, W5.cell? ⟨w.heap.size, j, none⟩ = (#[Value.int .i64 n, .int .i64 a0, .int .i64 a1, .int .i64 a2, .int .i64 a3, .int .i64 a4, .string s, .string t, .slice A zs.length c] : Array Value)[j]? := fun j => (hb5.cell (p := ⟨w.heap.size, j, none⟩) (by show w.heap.size < _; omega)).trans (hr4 j)
        have hc5 : ∀ j, W5.cell? ⟨C, j, none⟩ = (#[Value.string (nameOf n), .string (shapeOf n), .int .i64 (gateOf n), .int .u32 (needA n), .int .u32 (needB n)] : Array Value)[j]? := fun j => (hb5.cell (p := ⟨C, j, none⟩) (by show C < _; omega)).trans (hc4 j)
        have hs5 : C < W5.heap.size := by have := hb5.size; omega
        have hbw5 := hbw4.trans (hb5.mono (by omega))
        clear hr4 hc4
        cases b3 with
        | false =>
          go_wp2_with fail
          go_ret
          exact ⟨by rw [← HR.out]; rfl, hbw5⟩
        | true =>
          go_wp2_with fail
          refine (CL.out _ (HI.out.below hbw5)).mono ?_
          rintro e W6 ⟨rfl, hb6⟩
          have hr6 : ∀ j, W6.cell? ⟨w.heap.size, j, none⟩ = (#[Value.int .i64 n, .int .i64 a0, .int .i64 a1, .int .i64 a2, .int .i64 a3, .int .i64 a4, .string s, .string t, .slice A zs.length c] : Array Value)[j]? := fun j => (hb6.cell (p := ⟨w.heap.size, j, none⟩) (by show w.heap.size < _; omega)).trans (hr5 j)
          have hc6 : ∀ j, W6.cell? ⟨C, j, none⟩ = (#[Value.string (nameOf n), .string (shapeOf n), .int .i64 (gateOf n), .int .u32 (needA n), .int .u32 (needB n)] : Array Value)[j]? := fun j => (hb6.cell (p := ⟨C, j, none⟩) (by show C < _; omega)).trans (hc5 j)
          have hs6 : C < W6.heap.size := by have := hb6.size; omega
          have hbw6 := hbw5.trans (hb6.mono (by omega))
          clear hr5 hc5
          cases b4 with
          | false =>
            go_wp2_with fail
            go_ret
            exact ⟨by rw [← HR.out]; rfl, hbw6⟩
          | true =>
            go_wp2_with fail
            go_ret
            exact ⟨by rw [← HR.out]; rfl, hbw6⟩
end Go.Proofs.YtmjlfknkembhnaaDoor
