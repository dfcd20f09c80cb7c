/- The program's Gate. Conditions: none. -/
import Derived.Test.YtmjlfknkembhnaaDoorRGate
import Derived.Deep.RegionHeld3
namespace Go.Proofs.YtmjlfknkembhnaaDoor
open Go Go.ChangeShapes Go.WideShapes Go.ChangeAt Go.RowKit
/-- Whether one of the first k values is a directory's, and none was given. -/
def hitUpto (sh : ByteArray) (A : List Int) (k : Nat) : Bool := (List.range k).any fun i => sh.data.toList.getD i 0 == 100 && A.getD i 0 == -100
theorem hit_succ (sh : ByteArray) (A : List Int) (k : Nat) : hitUpto sh A (k + 1) = (hitUpto sh A k || (sh.data.toList.getD k 0 == 100 && A.getD k 0 == -100)) := by
  unfold hitUpto; rw [List.range_succ, List.any_append]; simp
theorem gateV_zero {c : Bool} {g : Int} {h : Bool} (e : gateV c g h = 0) (x : Bool) : gateV c g (h || x) = gateV c g x := by
  unfold gateV at *
  cases c <;> cases h <;> cases x <;> simp_all
theorem gateV_stays {c : Bool} {g : Int} {h : Bool} (e : gateV c g h ≠ 0) (x : Bool) : gateV c g (h || x) = gateV c g h := by
  unfold gateV at *
  cases c <;> cases h <;> cases x <;> simp_all
def dpos (n : Nat) : List Nat := (List.range (shapeOf n).data.toList.length).filter fun i => (shapeOf n).data.toList.getD i 0 == 100
theorem d_table : (List.range 64).all (fun m => decide (gateOf (m + 1) = 2 → dpos (m + 1) = if two (shapeOf (m + 1)) then [0, 1] else [0]) && decide ((shapeOf (m + 1)).data.toList.length ≤ 5)) = true := by decide +kernel
theorem hit_all (n : Nat) (h1 : 1 ≤ n) (h2 : n ≤ 64) (a0 a1 a2 a3 a4 : Int) (c : Bool) :
    gateV c (gateOf n) (hitUpto (shapeOf n) [a0, a1, a2, a3, a4] (shapeOf n).data.toList.length) = gateV c (gateOf n) (a0 == -100 || (two (shapeOf n) && a1 == -100)) := by
  have t := List.all_eq_true.1 d_table (n - 1) (List.mem_range.2 (by omega))
  rw [show n - 1 + 1 = n by omega] at t
  simp only [Bool.and_eq_true, decide_eq_true_eq] at t
  by_cases g2 : gateOf n = 2
  · have hd := t.1 g2
    have : hitUpto (shapeOf n) [a0, a1, a2, a3, a4] (shapeOf n).data.toList.length = (dpos n).any (fun i => [a0, a1, a2, a3, a4].getD i 0 == -100) := by
      unfold hitUpto dpos
      rw [List.any_filter]
    rw [this, hd]
    cases two (shapeOf n) <;> simp
  · unfold gateV
    have e : (gateOf n == 2) = false := by simpa using g2
    rw [e]; simp
theorem shape_le (n : Nat) (h1 : 1 ≤ n) (h2 : n ≤ 64) : (shapeOf n).size ≤ 5 := by
  have t := List.all_eq_true.1 d_table (n - 1) (List.mem_range.2 (by omega))
  rw [show n - 1 + 1 = n by omega] at t
  simp only [Bool.and_eq_true, decide_eq_true_eq] at t
  have := t.2
  simpa using this
set_option maxRecDepth 100000 in
set_option maxHeartbeats 4000000 in
theorem gate_any (no a0 a1 a2 a3 a4 : Int) (s t : ByteArray) (hs : s.size ≤ 9223372036854775807) (ht : t.size ≤ 9223372036854775807) (A : Option Addr) (zs : List Int) (m c : Nat) (R : Int) (cap : Bool) (hR : Hid (checkP no [a0, a1, a2, a3, a4] s.size t.size zs = R)) (hm : Hid (zs.length = m)) (hl : m ≤ 100) (w : World) (hG : Gl w) (hI : Ints w A zs) :
    Calls Tryd.prog 18 #[.agg #[.int .i64 no, .int .i64 a0, .int .i64 a1, .int .i64 a2, .int .i64 a3, .int .i64 a4, .string s, .string t, .slice A m c], .bool cap] w fun e w' => e = .returned (.int .i64 (rgateV no a0 a1 R cap)) ∧ Below w.heap.size w w' := by
  have HG := Lib.hid hG; clear hG
  have HI := Lib.hid hI; clear hI
  have HL := Lib.hid hl; clear hl
  have HS := Lib.hid hs; clear hs
  have HT := Lib.hid ht; clear ht
  by_cases h0 : R = 0
  · subst h0
    obtain ⟨b1, b2⟩ := in_table hR.out
    obtain ⟨n, rfl⟩ : ∃ n : Nat, no = (n : Int) := ⟨no.toNat, by omega⟩
    have hget : ∀ W : World, Gl W → Calls Tryd.prog 24 #[.int .i64 n] W fun e w' => e = .returned (.tuple #[.agg #[.string (nameOf n), .string (shapeOf n), .int .i64 (gateOf n), .int .u32 (needA n), .int .u32 (needB n)], .bool true]) ∧ Below W.heap.size W w' := fun W hW => Get_in n W hW (by omega) (by omega)
    have hgt : ∀ (dir : Int) (W : World), Gl W → Calls Tryd.prog 25 #[.int .i64 n, .int .i64 dir, .bool cap] W fun e w' => e = .returned (.int .i64 (gateV cap (gateOf n) (dir == -100))) ∧ Below W.heap.size W w' := fun dir W hW => gate25 n (by omega) (by omega) dir cap W hW
    have hv : rgateV n a0 a1 0 cap = gateV cap (gateOf n) (hitUpto (shapeOf n) [a0, a1, a2, a3, a4] (shapeOf n).data.toList.length) := by
      rw [hit_all n (by omega) (by omega)]; simp [rgateV]
    have h5 := shape_le n (by omega) (by omega)
    have hlen : (shapeOf n).data.toList.length = (shapeOf n).size := by simp
    rw [hv, hlen]
    clear hlen hv
    generalize gateOf n = g at hget hgt
    generalize shapeOf n = sh at hget h5
    obtain ⟨AA, hAA⟩ : ∃ AA, [a0, a1, a2, a3, a4] = AA := ⟨_, rfl⟩
    rw [hAA] at hR
    rw [hAA]
    have HAA := Lib.hid hAA; clear hAA
    obtain ⟨V, hV⟩ : ∃ V, gateV cap g (hitUpto sh AA sh.size) = V := ⟨_, rfl⟩
    rw [hV]
    have HV := Lib.hid hV; clear hV
    have HGET := Lib.hid hget; clear hget b1 b2
    have HGT := Lib.hid hgt; clear hgt
    have H5 := Lib.hid h5; clear h5
    go_enter Tryd.func18, Tryd.ntmps18
    go_wp2_with fail
    refine (check_R (HAA.out ▸ hR) HS.out HT.out hm HL.out A c _ (HG.out.below ((Below.refl _ w).alloc (Nat.le_refl _) _) HG.out.2.2) (HI.out.below ((Below.refl _ w).alloc (Nat.le_refl _) _))).mono ?_
    rintro e w1 ⟨rfl, hb⟩
    have hbx : ∀ j, w1.cell? ⟨w.heap.size, j, none⟩ = (#[Value.int .i64 n, .int .i64 a0, .int .i64 a1, .int .i64 a2, .int .i64 a3, .int .i64 a4, .string s, .string t, .slice A m c] : Array Value)[j]? := fun j => by
      rw [hb.cell (p := ⟨w.heap.size, j, none⟩) (by simp)]
      simp [go_sem]
    have q0 := hbx 0
    have hB1 : Below w.heap.size w w1 := ((Below.refl _ w).alloc (Nat.le_refl _) _).trans (hb.mono (by simp))
    have hlt : w.heap.size < w1.heap.size := by have := hb.size; simp at this; omega
    have HG1 := Lib.hid (HG.out.below hB1 HG.out.2.2)
    have HBX := Lib.hid hbx
    have HB1 := Lib.hid hB1
    have HLT := Lib.hid hlt
    clear hb hbx hB1
    go_wp2_with fail
    refine (HGET.out w1 HG1.out).mono ?_
    rintro e w2 ⟨rfl, hb2⟩
    have hs2 := hb2.size
    have HB2 := Lib.hid (fun o => hb2.alloc hs2 o)
    have r0 : ∀ o, (w2.alloc o).cell? ⟨w.heap.size, 0, none⟩ = some (.int .i64 n) := fun o => ((HB2.out o).cell (p := ⟨w.heap.size, 0, none⟩) hlt).trans (HBX.out 0)
    clear hb2
    go_wp2_with fail
    refine (HGT.out 0 _ (HG1.out.below (HB2.out _) HG1.out.2.2)).mono ?_
    rintro e w3 ⟨rfl, hb3⟩
    have hc : ∀ j, w3.cell? ⟨w2.heap.size, j, none⟩ = (#[Value.string (nameOf n), .string sh, .int .i64 g, .int .u32 (needA n), .int .u32 (needB n)] : Array Value)[j]? := fun j => by
      rw [hb3.cell (p := ⟨w2.heap.size, j, none⟩) (by simp)]; exact World.cell?_alloc_new _ _ _ _
    have HB3 := Lib.hid ((HB2.out _).trans (hb3.mono (by simp; omega)))
    have hr : ∀ j, w3.cell? ⟨w.heap.size, j, none⟩ = (#[Value.int .i64 n, .int .i64 a0, .int .i64 a1, .int .i64 a2, .int .i64 a3, .int .i64 a4, .string s, .string t, .slice A m c] : Array Value)[j]? := fun j => (HB3.out.cell (p := ⟨w.heap.size, j, none⟩) hlt).trans (HBX.out j)
    have hs3 : w2.heap.size < w3.heap.size := by have := hb3.size; simp at this; omega
    have c1 := hc 1
    have HR3 := Lib.hid hr
    have HG3 := Lib.hid (HG1.out.below HB3.out HG1.out.2.2)
    clear hb3 hc hr r0 q0
    go_wp2_with fail
    have c1' : w3.cell? ⟨w2.heap.size, 1, none⟩ = some (.string sh) := c1
    have HC1 := Lib.hid c1'
    have hs3' := hs3
    clear c1 c1' HB2 HBX
    go_loopw [8, 28] (fun ve vk wr => ∃ k : Nat, vk = .int .i64 k ∧ k ≤ sh.size ∧ ve = .int .i64 (gateV cap g (hitUpto sh AA k)) ∧ Hid (Below w3.heap.size w3 wr)) (fun _ vk _ => sh.size - (intOf vk).toNat)
    case atStart => exact ⟨0, rfl, Nat.zero_le _, rfl, Lib.hid (Below.refl _ _)⟩
    case round =>
      obtain ⟨k, rfl, hk, rfl, hbel⟩ := hrel
      have hsz5 : sh.size ≤ 5 := H5.out
      have HN := Lib.hid (hit_succ sh AA k)
      have sc : wr.cell? ⟨w2.heap.size, 1, none⟩ = some (.string sh) := (hbel.out.cell (p := ⟨w2.heap.size, 1, none⟩) hs3).trans HC1.out
      by_cases hlt' : k < sh.size
      · have hlti : (k : Int) < (sh.size : Int) := by omega
        have hk0 : (0 : Int) ≤ (k : Int) := by omega
        have hget : sh.data.toList.getD k 0 = sh[k] := by
          rw [List.getD_eq_getElem?_getD, List.getElem?_eq_getElem (by simpa using hlt')]; rfl
        have HGETK := Lib.hid hget; clear hget
        by_cases d1 : sh[k] = 100
        · have d1' : ((sh[k].toNat : Int) == 100) = true := by rw [d1]; rfl
          have hstep : ∀ E, gateV cap g (hitUpto sh AA k) = E → (E = 0 → gateV cap g (hitUpto sh AA (k + 1)) = gateV cap g (AA.getD k 0 == -100)) ∧ (E ≠ 0 → gateV cap g (hitUpto sh AA (k + 1)) = E) := by
            intro E hE
            rw [HN.out, HGETK.out, d1]
            refine ⟨fun e => ?_, fun e => ?_⟩
            · rw [gateV_zero (by rw [hE, e])]; simp
            · rw [gateV_stays (by rw [hE]; exact e), hE]
          generalize hE : gateV cap g (hitUpto sh AA k) = E at *
          have HST := Lib.hid (hstep E rfl); clear hstep hE
          by_cases e0 : E = 0
          · subst e0
            have rk : w3.cell? ⟨w.heap.size, 1 + k, none⟩ = some (.int .i64 (AA.getD k 0)) := by
              rw [HR3.out (1 + k), ← HAA.out]
              match k, (show k < 5 by omega) with
              | 0, _ => rfl
              | 1, _ => rfl
              | 2, _ => rfl
              | 3, _ => rfl
              | 4, _ => rfl
            have hsp : w.heap.size < w3.heap.size := by omega
            generalize AA.getD k 0 = x at *
            have hkeep : ∀ u u' : World, (Below w3.heap.size w3 u ∧ u.cell? ⟨w.heap.size, 0, none⟩ = some (.int .i64 n) ∧ u.cell? ⟨w.heap.size, 1 + k, none⟩ = some (.int .i64 x)) → Below u.heap.size u u' →
                (Below w3.heap.size w3 u' ∧ u'.cell? ⟨w.heap.size, 0, none⟩ = some (.int .i64 n) ∧ u'.cell? ⟨w.heap.size, 1 + k, none⟩ = some (.int .i64 x)) := by
              rintro u u' ⟨x1, x2, x3⟩ hb
              have hsu := x1.size
              exact ⟨x1.trans (hb.mono hsu), (hb.cell (p := ⟨w.heap.size, 0, none⟩) (show w.heap.size < _ by omega)).trans x2, (hb.cell (p := ⟨w.heap.size, 1 + k, none⟩) (show w.heap.size < _ by omega)).trans x3⟩
            have hst : Below w3.heap.size w3 wr ∧ wr.cell? ⟨w.heap.size, 0, none⟩ = some (.int .i64 n) ∧ wr.cell? ⟨w.heap.size, 1 + k, none⟩ = some (.int .i64 x) :=
              hkeep w3 wr ⟨Below.refl _ _, HR3.out 0, rk⟩ hbel.out
            have HKEEP := Lib.hid hkeep
            have HST2 := Lib.hid (hkeep wr wr.drew hst (Below.refl _ _).drew)
            have z0 := hst.2.1
            have z1 := hst.2.2
            clear rk hkeep hst
            have hk5 : (k : Int) < 5 := by omega
            go_upto_region 10 with fail
            go_region_held3 (fun w' => Below w3.heap.size w3 w' ∧ w'.cell? ⟨w.heap.size, 0, none⟩ = some (.int .i64 n) ∧ w'.cell? ⟨w.heap.size, 1 + k, none⟩ = some (.int .i64 x))
              (first
                | exact HST2.out
                | exact HKEEP.out _ _ (by assumption) (by assumption))
              (first
                | (go_at_call 25; refine (HGT.out _ _ (HG3.out.later (‹Below w3.heap.size w3 _ ∧ _›.1))).mono ?_; rintro e w' ⟨rfl, hb4⟩))
            go_wp2_with fail
            go_roundw
            case rel => exact ⟨k + 1, by go_num, by omega, by rw [HST.out.1 trivial], Lib.hid (‹Below w3.heap.size w3 _ ∧ _›.1)⟩
            case measure => simp [intOf]; omega
          · have e0' : (E == 0) = false := by simpa using e0
            go_wp2_with fail
            go_roundw
            case rel => exact ⟨k + 1, by go_num, by omega, by rw [HST.out.2 e0], hbel⟩
            case measure => simp [intOf]; omega
        · have d1' : ((sh[k].toNat : Int) == 100) = false := by
            rw [beq_eq_false_iff_ne]; intro e; exact d1 (UInt8.toNat_inj.1 (by show sh[k].toNat = 100; omega))
          have hstep : hitUpto sh AA (k + 1) = hitUpto sh AA k := by
            rw [HN.out, HGETK.out]
            have : (sh[k] == 100) = false := by simpa using d1
            rw [this]; simp
          have HST := Lib.hid hstep; clear hstep
          go_wp2_with fail
          go_roundw
          case rel => exact ⟨k + 1, by go_num, by omega, by rw [HST.out], hbel⟩
          case measure => simp [intOf]; omega
      · have hlti : ¬ (k : Int) < (sh.size : Int) := by omega
        have hke : k = sh.size := by omega
        have hV' : gateV cap g (hitUpto sh AA k) = V := by rw [hke]; exact HV.out
        rw [hV']
        clear hV' hke
        go_wp2_with fail
        go_ret
        exact ⟨rfl, HB1.out.trans ((HB3.out.trans (hbel.out.mono HB3.out.size)).mono HB1.out.size)⟩
  · have hv : rgateV no a0 a1 R cap = R := by simp [rgateV, h0]
    rw [hv]
    have e0 : (R == 0) = false := by simpa using h0
    clear hv
    go_enter Tryd.func18, Tryd.ntmps18
    go_wp2_with fail
    refine (check_R hR HS.out HT.out hm HL.out A c _ (HG.out.below ((Below.refl _ w).alloc (Nat.le_refl _) _) HG.out.2.2) (HI.out.below ((Below.refl _ w).alloc (Nat.le_refl _) _))).mono ?_
    rintro e w1 ⟨rfl, hb⟩
    go_wp2_with fail
    go_ret
    exact ⟨rfl, ((Below.refl _ w).alloc (Nat.le_refl _) _).trans (hb.mono (by simp))⟩
end Go.Proofs.YtmjlfknkembhnaaDoor
