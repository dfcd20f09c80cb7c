/- The reference's Gate. Conditions: none. -/
import Derived.Test.YtmjlfknkembhnaaDoorGate
namespace Go.Proofs.YtmjlfknkembhnaaDoor
open Go Go.ChangeShapes Go.WideShapes Go.ChangeAt Go.RowKit
/-- Whether a call's second value is a directory too. -/
def two (sh : ByteArray) : Bool := decide (1 < sh.data.toList.length) && (sh.data.toList.getD 1 0 == 100)
def rgateV (no a0 a1 : Int) (R : Int) (cap : Bool) : Int := if R ≠ 0 then R else gateV cap (gateOf no.toNat) (a0 == -100 || (two (shapeOf no.toNat) && a1 == -100))
theorem leafV {x V : Int} {c : Bool} {g : Int} {h : Bool} (H : Hid (gateV c g h = V)) (e : gateV c g h = x) : Ending.returned (.int .i64 x) = Ending.returned (.int .i64 V) := by rw [← H.out, e]
set_option maxRecDepth 100000 in
set_option maxHeartbeats 4000000 in
theorem rgate_any (no a0 a1 a2 a3 a4 : Int) (s t : ByteArray) (A : Option Addr) (zs : List Int) (m c : Nat) (R : Int) (cap : Bool) (hR : Hid (checkP no [a0, a1, a2, a3, a4] s.size t.size zs = R)) (hm : Hid (zs.length = m)) (hl : m ≤ 100) (w : World) (hI : Ints w A zs) :
    Calls Tryd.prog 19 #[.agg #[.int .i64 no, .int .i64 a0, .int .i64 a1, .int .i64 a2, .int .i64 a3, .int .i64 a4, .string s, .string t, .slice A m c], .bool cap] w fun e w' => e = .returned (.int .i64 (rgateV no a0 a1 R cap)) ∧ Below w.heap.size w w' := by
  have HI := Lib.hid hI; clear hI
  have HL := Lib.hid hl; clear hl
  by_cases h0 : R = 0
  · subst h0
    obtain ⟨b1, b2⟩ := in_table hR.out
    obtain ⟨n, rfl⟩ : ∃ n : Nat, no = (n : Int) := ⟨no.toNat, by omega⟩
    have hget : ∀ W : World, Calls Tryd.prog 15 #[.int .i64 n] W fun e w' => e = .returned (.tuple #[.agg #[.string (nameOf n), .string (shapeOf n), .int .i64 (gateOf n), .int .u32 (needA n), .int .u32 (needB n)], .bool true]) ∧ Below W.heap.size W w' := fun W => rGet_in n W (by omega) (by omega)
    have hv : rgateV n a0 a1 0 cap = gateV cap (gateOf n) (a0 == -100 || (two (shapeOf n) && a1 == -100)) := by simp [rgateV]
    rw [hv]
    generalize gateOf n = g at hget
    generalize shapeOf n = sh at hget
    have HGET := Lib.hid hget; clear hget hv b1 b2
    generalize hV : gateV cap g (a0 == -100 || (two sh && a1 == -100)) = V
    have HV := Lib.hid hV; clear hV
    cases cap with
    | false =>
      obtain rfl : V = 0 := by rw [← HV.out]; rfl
      go_enter Tryd.func19, Tryd.ntmps19
      go_wp2_with fail
      refine (rCheck_R hR hm HL.out A c _ (HI.out.below ((Below.refl _ w).alloc (Nat.le_refl _) _))).mono ?_
      rintro e w1 ⟨rfl, hb⟩
      go_wp2_with fail
      go_ret
      exact ⟨rfl, ((Below.refl _ w).alloc (Nat.le_refl _) _).trans (hb.mono (by simp))⟩
    | true =>
      go_enter Tryd.func19, Tryd.ntmps19
      go_wp2_with fail
      refine (rCheck_R hR hm HL.out A c _ (HI.out.below ((Below.refl _ w).alloc (Nat.le_refl _) _))).mono ?_
      rintro e w1 ⟨rfl, hb⟩
      have hbx : ∀ j, w1.cell? ⟨w.heap.size, j, none⟩ = (#[Value.int .i64 n, .int .i64 a0, .int .i64 a1, .int .i64 a2, .int .i64 a3, .int .i64 a4, .string s, .string t, .slice A m c] : Array Value)[j]? := fun j => by
        rw [hb.cell (p := ⟨w.heap.size, j, none⟩) (by simp)]
        simp [go_sem]
      have q0 := hbx 0
      have hB1 : Below w.heap.size w w1 := ((Below.refl _ w).alloc (Nat.le_refl _) _).trans (hb.mono (by simp))
      have hlt : w.heap.size < w1.heap.size := by have := hb.size; simp at this; omega
      clear hb
      go_wp2_with fail
      refine (HGET.out w1).mono ?_
      rintro e w2 ⟨rfl, hb2⟩
      have hs2 := hb2.size
      have hbel : ∀ o, Below w1.heap.size w1 (w2.alloc o) := fun o => hb2.alloc hs2 o
      have r1 : ∀ o, (w2.alloc o).cell? ⟨w.heap.size, 1, none⟩ = some (.int .i64 a0) := fun o => ((hbel o).cell (p := ⟨w.heap.size, 1, none⟩) hlt).trans (hbx 1)
      have r2 : ∀ o, (w2.alloc o).cell? ⟨w.heap.size, 2, none⟩ = some (.int .i64 a1) := fun o => ((hbel o).cell (p := ⟨w.heap.size, 2, none⟩) hlt).trans (hbx 2)
      have fin : ∀ o, Below w.heap.size w (w2.alloc o) := fun o => hB1.trans ((hbel o).mono hB1.size)
      have FIN := Lib.hid fin
      clear hbx hbel fin hB1 hb2
      have hsz : sh.data.toList.length = sh.size := by simp
      by_cases s1 : 1 < sh.size
      · have s1' : (1 : Int) < (sh.size : Int) := by omega
        have hd : two sh = (sh[1] == 100) := by
          unfold two
          rw [hsz, decide_eq_true s1, Bool.true_and, List.getD_eq_getElem?_getD, List.getElem?_eq_getElem (by rw [hsz]; exact s1)]
          rfl
        by_cases d1 : sh[1] = 100
        · have d1' : ((sh[1].toNat : Int) == 100) = true := by rw [d1]; rfl
          have ht : two sh = true := by rw [hd, d1]; rfl
          rw [ht] at HV
          clear hd d1 ht hsz
          by_cases g1 : g = 1
          · subst g1
            go_wp2_with fail
            go_ret
            exact ⟨leafV (by assumption) (by simp [gateV, *]), (‹Hid (∀ o, Below _ _ (World.alloc _ o))›).out _⟩
          · have e1 : (g == 1) = false := by simpa using g1
            by_cases g2 : g = 2
            · subst g2
              by_cases x0 : a0 = -100
              · subst x0
                go_wp2_with fail
                go_ret
                exact ⟨leafV (by assumption) (by simp [gateV, *]), (‹Hid (∀ o, Below _ _ (World.alloc _ o))›).out _⟩
              · have y0 : (a0 == -100) = false := by simpa using x0
                by_cases x1 : a1 = -100
                · subst x1
                  go_wp2_with fail
                  go_ret
                  exact ⟨leafV (by assumption) (by simp [gateV, *]), (‹Hid (∀ o, Below _ _ (World.alloc _ o))›).out _⟩
                · have y1 : (a1 == -100) = false := by simpa using x1
                  go_wp2_with fail
                  go_ret
                  exact ⟨leafV (by assumption) (by simp [gateV, *]), (‹Hid (∀ o, Below _ _ (World.alloc _ o))›).out _⟩
            · have e2 : (g == 2) = false := by simpa using g2
              go_wp2_with fail
              go_ret
              exact ⟨leafV (by assumption) (by simp [gateV, *]), (‹Hid (∀ o, Below _ _ (World.alloc _ o))›).out _⟩
        · have d1' : ((sh[1].toNat : Int) == 100) = false := by
            rw [beq_eq_false_iff_ne]; intro e; exact d1 (UInt8.toNat_inj.1 (by show sh[1].toNat = 100; omega))
          have ht : two sh = false := by rw [hd]; simpa using d1
          rw [ht] at HV
          clear hd d1 ht hsz
          by_cases g1 : g = 1
          · subst g1
            go_wp2_with fail
            go_ret
            exact ⟨leafV (by assumption) (by simp [gateV, *]), (‹Hid (∀ o, Below _ _ (World.alloc _ o))›).out _⟩
          · have e1 : (g == 1) = false := by simpa using g1
            by_cases g2 : g = 2
            · subst g2
              by_cases x0 : a0 = -100
              · subst x0
                go_wp2_with fail
                go_ret
                exact ⟨leafV (by assumption) (by simp [gateV, *]), (‹Hid (∀ o, Below _ _ (World.alloc _ o))›).out _⟩
              · have y0 : (a0 == -100) = false := by simpa using x0
                go_wp2_with fail
                go_ret
                exact ⟨leafV (by assumption) (by simp [gateV, *]), (‹Hid (∀ o, Below _ _ (World.alloc _ o))›).out _⟩
            · have e2 : (g == 2) = false := by simpa using g2
              go_wp2_with fail
              go_ret
              exact ⟨leafV (by assumption) (by simp [gateV, *]), (‹Hid (∀ o, Below _ _ (World.alloc _ o))›).out _⟩
      · have s1' : ¬ (1 : Int) < (sh.size : Int) := by omega
        have ht : two sh = false := by unfold two; rw [hsz, decide_eq_false s1]; rfl
        rw [ht] at HV
        clear ht hsz s1
        by_cases g1 : g = 1
        · subst g1
          go_wp2_with fail
          go_ret
          exact ⟨leafV (by assumption) (by simp [gateV, *]), (‹Hid (∀ o, Below _ _ (World.alloc _ o))›).out _⟩
        · have e1 : (g == 1) = false := by simpa using g1
          by_cases g2 : g = 2
          · subst g2
            by_cases x0 : a0 = -100
            · subst x0
              go_wp2_with fail
              go_ret
              exact ⟨leafV (by assumption) (by simp [gateV, *]), (‹Hid (∀ o, Below _ _ (World.alloc _ o))›).out _⟩
            · have y0 : (a0 == -100) = false := by simpa using x0
              go_wp2_with fail
              go_ret
              exact ⟨leafV (by assumption) (by simp [gateV, *]), (‹Hid (∀ o, Below _ _ (World.alloc _ o))›).out _⟩
          · have e2 : (g == 2) = false := by simpa using g2
            go_wp2_with fail
            go_ret
            exact ⟨leafV (by assumption) (by simp [gateV, *]), (‹Hid (∀ o, Below _ _ (World.alloc _ o))›).out _⟩
  · have hv : rgateV no a0 a1 R cap = R := by simp [rgateV, h0]
    rw [hv]
    have e0 : (R == 0) = false := by simpa using h0
    clear hv
    go_enter Tryd.func19, Tryd.ntmps19
    go_wp2_with fail
    refine (rCheck_R hR hm HL.out A c _ (HI.out.below ((Below.refl _ w).alloc (Nat.le_refl _) _))).mono ?_
    rintro e w1 ⟨rfl, hb⟩
    go_wp2_with fail
    go_ret
    exact ⟨rfl, ((Below.refl _ w).alloc (Nat.le_refl _) _).trans (hb.mono (by simp))⟩
end Go.Proofs.YtmjlfknkembhnaaDoor
