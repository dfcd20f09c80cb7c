/- ReqsRest: a number that stands for nothing, or may not stand for its letter, is refused. Conditions: none. -/
import Derived.Test.YtmjlfknkembhnaaDoorRestLaw
import Derived.Test.YtmjlfknkembhnaaDoorRefTakes
import Derived.Laws.AppendOwn
import Derived.Test.YtmjlfknkembhnaaDoorCards
import Derived.Test.YtmjlfknkembhnaaDoorTie
namespace Go.Proofs.YtmjlfknkembhnaaDoor.lawRest
open Go Go.ChangeShapes Go.WideShapes Go.ChangeAt Go.RowKit
theorem info5 : (Tryd.prog.info? 5).map (fun i => (i.zero, i.size, i.bytes)) = some (some (.int .u8 0), 1, 1) := by kernel_rfl
/-- A byte as a value. -/
def bv (c : UInt8) : Value := .int .u8 (c.toNat : Int)
theorem bytes_of_row {w : World} {B : Nat} {v : Value} {bs : List UInt8} (h : w.ownsRow B 5 1 v bs.length (bs.map bv)) :
    ∃ A c, v = .slice A bs.length c ∧ ∀ j, j < bs.length → ∃ g, A = some ⟨g, 0, none⟩ ∧ B ≤ g ∧ w.cell? ⟨g, j, none⟩ = some (bv (bs.getD j 0)) := by
  obtain ⟨_, ⟨rfl, h0⟩ | ⟨g, cap, cur, rfl, hB, hb, h1, h2, h3, h4⟩⟩ := h
  · exact ⟨none, 0, by rw [h0], fun j hj => by omega⟩
  · refine ⟨some ⟨g, 0, none⟩, cap, rfl, fun j hj => ⟨g, rfl, hB, ?_⟩⟩
    have e : cur[j]? = some (bv (bs.getD j 0)) := by
      have h5 : (cur.toList.take (bs.length * 1))[j]? = (bs.map bv)[j]? := by rw [h4]
      rw [List.getElem?_take_of_lt (by omega), List.getElem?_map, List.getElem?_eq_getElem hj] at h5
      rw [List.getD_eq_getElem?_getD, List.getElem?_eq_getElem hj]
      simpa using h5
    simp [World.cell?, hb, e]
set_option maxRecDepth 100000 in
set_option maxHeartbeats 4000000 in
theorem walk (no a0 a1 a2 a3 a4 : Int) (s t : ByteArray) (A : Option Addr) (zs : List Int) (m c : Nat) (hm : zs.length = m) (hc : m ≤ c) (hs : s.size ≤ 9223372036854775807) (ht : t.size ≤ 9223372036854775807) (at_ v : Int) (hat0 : 0 ≤ at_) (hat1 : at_ ≤ 255) (w : World) (hG : Gl w) (hI : Ints w A zs) :
    Calls Tryd.prog 5 #[.agg #[.int .i64 no, .int .i64 a0, .int .i64 a1, .int .i64 a2, .int .i64 a3, .int .i64 a4, .string s, .string t, .slice A m c], .int .u8 at_, .int .i64 v] w fun e w' => e = .returned (.bool true) ∧ Below w.heap.size w w' := by
  have HG := Lib.hid hG; clear hG
  have HI := Lib.hid hI; clear hI
  have HM := Lib.hid hm; clear hm
  obtain ⟨k, hk⟩ : ∃ k, (zs.take 100).length = k := ⟨_, rfl⟩
  have hkl : k ≤ 100 := by rw [← hk, List.length_take]; omega
  have HK := Lib.hid hk; clear hk
  have HAT0 := Lib.hid hat0; clear hat0
  have HAT1 := Lib.hid hat1; clear hat1
  have HC := Lib.hid hc; clear hc
  have HS := Lib.hid hs; clear hs
  have HT := Lib.hid ht; clear ht
  have HKL := Lib.hid hkl; clear hkl
  go_enter Tryd.func5, Tryd.ntmps5
  go_wp2_with fail
  refine (short_m no a0 a1 a2 a3 a4 s t A zs m c k HM.out HC.out HK _ (HI.out.below ((Below.refl _ w).alloc (Nat.le_refl _) _))).mono ?_
  rintro e w1 ⟨A', c', rfl, hI', hB, hA'0⟩
  have hA' := Lib.hid hA'0; clear hA'0
  have hB1 : Below w.heap.size w w1 := ((Below.refl _ w).alloc (Nat.le_refl _) _).trans (hB.mono (by simp <;> omega))
  have hbx : ∀ j, w1.cell? ⟨w.heap.size, j, none⟩ = (#[Value.int .i64 no, .int .i64 a0, .int .i64 a1, .int .i64 a2, .int .i64 a3, .int .i64 a4, .string s, .string t, .slice A m c] : Array Value)[j]? := fun j => by
    rw [hB.cell (p := ⟨w.heap.size, j, none⟩) (by simp)]
    simp [go_sem]
  have hfx : ∀ j, w1.frozen? ⟨w.heap.size, j, none⟩ = false := fun j => by
    rw [hB.frozen (p := ⟨w.heap.size, j, none⟩) (by simp)]
    simp [go_sem]
  have hlt : w.heap.size < w1.heap.size := by have := hB.size; simp at this; omega
  clear hB
  go_wp2_with fail
  obtain ⟨W1, hW1⟩ : ∃ W1, set9 w1 w.heap.size (.int .i64 no) (.int .i64 a0) (.int .i64 a1) (.int .i64 a2) (.int .i64 a3) (.int .i64 a4) (.string s) (.string t) (.slice A' k c') = W1 := ⟨_, rfl⟩
  have hW1' := hW1
  unfold set9 at hW1'
  rw [hW1']
  clear hW1'
  obtain ⟨q0, q1, q2, q3, q4, q5, q6, q7, q8⟩ := set9_cells (.int .i64 no) (.int .i64 a0) (.int .i64 a1) (.int .i64 a2) (.int .i64 a3) (.int .i64 a4) (.string s) (.string t) (.slice A' k c') (hbx 0) (hbx 1) (hbx 2) (hbx 3) (hbx 4) (hbx 5) (hbx 6) (hbx 7) (hbx 8)
  have hBW : Below w.heap.size w W1 := by rw [← hW1]; exact below_set9 hB1 (Nat.le_refl _) _ _ _ _ _ _ _ _ _
  have hIW : Ints W1 A' (zs.take 100) := by
    rw [← hW1]
    have far1 : ∀ b, A'.map Addr.block = some b → w.heap.size ≠ b := fun b hb => by have := hA'.out b hb; simp at this; omega
    exact ints_set9 hI'.out far1 _ _ _ _ _ _ _ _ _
  have hsz : w.heap.size < W1.heap.size := by rw [← hW1]; simpa [set9] using hlt
  have hfz : ∀ j, W1.frozen? ⟨w.heap.size, j, none⟩ = false := fun j => by rw [← hW1]; simp [set9, go_sem, hfx]
  have HFZ := Lib.hid hfz; clear hfz
  rw [hW1] at q0 q1 q2 q3 q4 q5 q6 q7 q8
  have HFAR : Hid (∀ b, A'.map Addr.block = some b → w.heap.size ≠ b) := Lib.hid (fun b hb => by have := hA'.out b hb; simp at this; omega)
  clear hbx hfx hlt hB1 hI' hW1 w1 hA'
  have HIW := Lib.hid hIW; clear hIW
  have HBW := Lib.hid hBW; clear hBW
  have HSZ := Lib.hid hsz; clear hsz
  have HGW : Hid (Gl W1) := Lib.hid ((HG.out).below HBW.out (HG.out.2.2))
  generalize zs.take 100 = ys at *
  have hQ : ∀ (w' : World), Below W1.heap.size W1 w' → (w'.cell? ⟨w.heap.size, 0, none⟩ = some (.int .i64 no) ∧ w'.cell? ⟨w.heap.size, 1, none⟩ = some (.int .i64 a0) ∧ w'.cell? ⟨w.heap.size, 2, none⟩ = some (.int .i64 a1) ∧ w'.cell? ⟨w.heap.size, 3, none⟩ = some (.int .i64 a2) ∧ w'.cell? ⟨w.heap.size, 4, none⟩ = some (.int .i64 a3) ∧
      w'.cell? ⟨w.heap.size, 5, none⟩ = some (.int .i64 a4) ∧ w'.cell? ⟨w.heap.size, 6, none⟩ = some (.string s) ∧ w'.cell? ⟨w.heap.size, 7, none⟩ = some (.string t) ∧ w'.cell? ⟨w.heap.size, 8, none⟩ = some (.slice A' k c') ∧ ∀ j, w'.frozen? ⟨w.heap.size, j, none⟩ = false) := fun w' hb => by
    have hc : ∀ j, w'.cell? ⟨w.heap.size, j, none⟩ = W1.cell? ⟨w.heap.size, j, none⟩ := fun j => hb.cell (p := ⟨w.heap.size, j, none⟩) HSZ.out
    exact ⟨by rw [hc]; exact q0, by rw [hc]; exact q1, by rw [hc]; exact q2, by rw [hc]; exact q3, by rw [hc]; exact q4, by rw [hc]; exact q5, by rw [hc]; exact q6, by rw [hc]; exact q7, by rw [hc]; exact q8, fun j => by rw [hb.frozen (p := ⟨w.heap.size, j, none⟩) HSZ.out]; exact HFZ.out j⟩
  have HQ := Lib.hid hQ; clear hQ q1 q2 q3 q4 q5 q6 q7 q8
  by_cases hin : no < 1 ∨ 64 < no
  · have HR := Lib.hid (out_table hin [a0, a1, a2, a3, a4] s.size t.size ys)
    refine (rGet_out no W1 hin).mono ?_
    rintro e w2 ⟨rfl, hb2⟩
    have hbo : ∀ o, Below W1.heap.size W1 (w2.alloc o) := fun o => hb2.alloc hb2.size o
    have HBO := Lib.hid hbo
    have r0 : ∀ o, (w2.alloc o).cell? ⟨w.heap.size, 0, none⟩ = some (.int .i64 no) := fun o => (HQ.out _ (hbo o)).1
    have r1 : ∀ o, (w2.alloc o).cell? ⟨w.heap.size, 1, none⟩ = some (.int .i64 a0) := fun o => (HQ.out _ (hbo o)).2.1
    have r2 : ∀ o, (w2.alloc o).cell? ⟨w.heap.size, 2, none⟩ = some (.int .i64 a1) := fun o => (HQ.out _ (hbo o)).2.2.1
    have r3 : ∀ o, (w2.alloc o).cell? ⟨w.heap.size, 3, none⟩ = some (.int .i64 a2) := fun o => (HQ.out _ (hbo o)).2.2.2.1
    have r4 : ∀ o, (w2.alloc o).cell? ⟨w.heap.size, 4, none⟩ = some (.int .i64 a3) := fun o => (HQ.out _ (hbo o)).2.2.2.2.1
    have r5 : ∀ o, (w2.alloc o).cell? ⟨w.heap.size, 5, none⟩ = some (.int .i64 a4) := fun o => (HQ.out _ (hbo o)).2.2.2.2.2.1
    have r6 : ∀ o, (w2.alloc o).cell? ⟨w.heap.size, 6, none⟩ = some (.string s) := fun o => (HQ.out _ (hbo o)).2.2.2.2.2.2.1
    have r7 : ∀ o, (w2.alloc o).cell? ⟨w.heap.size, 7, none⟩ = some (.string t) := fun o => (HQ.out _ (hbo o)).2.2.2.2.2.2.2.1
    have r8 : ∀ o, (w2.alloc o).cell? ⟨w.heap.size, 8, none⟩ = some (.slice A' k c') := fun o => (HQ.out _ (hbo o)).2.2.2.2.2.2.2.2.1
    clear hb2 hbo hin q0
    go_wp2_with fail
    refine (own_m no a0 a1 a2 a3 a4 s t A' ys k c' HK.out HKL.out _ (HIW.out.below (HBO.out _))).mono ?_
    rintro e w3 ⟨A2, c2, rfl, hI2, hb3, -⟩
    have HB3 := Lib.hid ((HBO.out _).trans (hb3.mono (HBO.out _).size))
    clear hb3
    go_wp2_with fail
    refine (Check_R HR HS.out HT.out HK HKL.out A2 c2 w3 (HGW.out.later HB3.out) hI2.out).mono ?_
    rintro e w4 ⟨rfl, hb4⟩
    have HB4 := Lib.hid (HB3.out.trans (hb4.mono HB3.out.size))
    clear hb4
    go_wp2_with fail
    refine (lives_any w4 (HGW.out.later HB4.out)).mono ?_
    rintro e w5 ⟨rfl, hb5⟩
    go_wp2_with fail
    go_ret
    exact ⟨rfl, HBW.out.trans ((HB4.out.trans (hb5.mono HB4.out.size)).mono HBW.out.size)⟩
  · obtain ⟨n, rfl⟩ : ∃ n : Nat, no = (n : Int) := ⟨no.toNat, by omega⟩
    have hrefuse := fun (AA : List Int) (i : Nat) (hi : i < AA.length) (h) => refused (no := n) (by omega) (by omega) (A := AA) (S := s.size) (T := t.size) (zs := ys) (i := i) hi h
    have h5 := (shape_ok n (by omega) (by omega)).1
    have hget : ∀ W : World, Calls Tryd.prog 15 #[.int .i64 n] W fun e w' => e = .returned (.tuple #[.agg #[.string (nameOf n), .string (shapeOf n), .int .i64 (gateOf n), .int .u32 (needA n), .int .u32 (needB n)], .bool true]) ∧ Below W.heap.size W w' := fun W => rGet_in n W (by omega) (by omega)
    generalize shapeOf n = sh at *
    have HGET := Lib.hid hget; clear hget hin
    have HRF := Lib.hid hrefuse; clear hrefuse
    have H5 := Lib.hid h5; clear h5
    refine (HGET.out W1).mono ?_
    rintro e w2 ⟨rfl, hb2⟩
    have HB2 := Lib.hid hb2; clear hb2
    obtain ⟨W4, hW4⟩ : ∃ W4, w2.alloc (.cells #[.string (nameOf n), .string sh, .int .i64 (gateOf n), .int .u32 (needA n), .int .u32 (needB n)] 36) = W4 := ⟨_, rfl⟩
    have hs4 : w2.heap.size < W4.heap.size := by rw [← hW4]; simp
    have cs : W4.cell? ⟨w2.heap.size, 1, none⟩ = some (.string sh) := by rw [← hW4]; exact World.cell?_alloc_new _ _ _ _
    have hB4 : Below W1.heap.size W1 W4 := by rw [← hW4]; exact HB2.out.alloc HB2.out.size _
    have hown0 : (W4.alloc (.cells #[] 5)).ownsRow W4.heap.size 5 1 (.slice (some ⟨W4.heap.size, 0, none⟩) 0 0) (small (sh.data.toList.take 0)).length ((small (sh.data.toList.take 0)).map bv) :=
      World.ownsRow_made W4 #[] 0 (Nat.le_refl _) (Nat.zero_le _) rfl
    go_wp2_with fail
    have HOWN0 := Lib.hid hown0; clear hown0
    have HCS := Lib.hid cs; clear cs
    have HB4 := Lib.hid hB4; clear hB4
    clear hW4
    obtain ⟨i5, hi5, hz0, hz1, hz2⟩ := info_parts info5
    have hll : sh.data.toList.length = sh.size := by simp
    have HLL := Lib.hid hll; clear hll
    go_loopw [9, 10] (fun v9 v10 wr => ∃ j : Nat, v10 = .int .i64 j ∧ j ≤ sh.size ∧ Hid (wr.ownsRow W4.heap.size 5 1 v9 (small (sh.data.toList.take j)).length ((small (sh.data.toList.take j)).map bv)) ∧ Hid (Below W4.heap.size W4 wr)) (fun _ v _ => sh.size - (intOf v).toNat)
    case atStart => exact ⟨0, rfl, Nat.zero_le _, Lib.hid HOWN0.out, Lib.hid ((Below.refl _ _).alloc (Nat.le_refl _) _)⟩
    case round =>
      obtain ⟨j, rfl, hj, hrow, hbel⟩ := hrel
      have hsz5 : sh.size ≤ 5 := H5.out
      have sc : wr.cell? ⟨w2.heap.size, 1, none⟩ = some (.string sh) := (hbel.out.cell (p := ⟨w2.heap.size, 1, none⟩) hs4).trans HCS.out
      by_cases hlt' : j < sh.size
      · have hlti : (j : Int) < (sh.size : Int) := by omega
        have hj0 : (0 : Int) ≤ (j : Int) := by omega
        have hsucc := small_succ sh.data.toList j (by rw [HLL.out]; exact hlt')
        have hgk : sh.data.toList[j]'(by rw [HLL.out]; exact hlt') = sh[j] := rfl
        rw [hgk] at hsucc
        by_cases d1 : 97 ≤ sh[j].toNat
        · have d1' : (97 : Int) ≤ (sh[j].toNat : Int) := by omega
          rw [if_pos d1] at hsucc
          have HSU := Lib.hid hsucc; clear hsucc hgk
          have hrl : (small (sh.data.toList.take j)).length ≤ 5 := by
            refine Nat.le_trans (List.length_filter_le _ _) ?_
            rw [List.length_take]; omega
          have HRL := Lib.hid hrl; clear hrl
          go_wp2_with (at_builtin; refine wpList_append_own _ rfl _ _ 39 rfl W4.heap.size 5 i5 (.int .u8 0) 1 1 Tryd.underlying39 hi5 hz0 hz1 hz2 rfl (by decide) _ _ _ rfl (hrow.out.alloc _) ⟨wr.heap.size, 0, none⟩ 1 1 [bv sh[j]] rfl rfl ?qn1 ?qn2 ?qn3 ?qn4 ?qn5 ?_)
          case qn1 =>
            intro jj u hu
            match jj with
            | 0 =>
              obtain rfl : bv sh[j] = u := by simpa using hu
              show World.cell? _ ⟨wr.heap.size, 0, none⟩ = _
              exact World.cell?_alloc_new wr _ _ 0
            | jj + 1 => simp at hu
          case qn2 => intro u hu; obtain rfl : u = bv sh[j] := by simpa using hu
                      rfl
          case qn3 => have := HRL.out; unfold maxLen; omega
          case qn4 => have := HRL.out; omega
          case qn5 => have := hbel.out.size; simp; omega
          intro v' w' hown' hgrow _
          have hown2 : w'.ownsRow W4.heap.size 5 1 v' (small (sh.data.toList.take (j + 1))).length ((small (sh.data.toList.take (j + 1))).map bv) := by
            rw [HSU.out, List.length_append, List.map_append]; exact hown'
          have hbel2 : Below W4.heap.size W4 w' := (hbel.out.alloc hbel.out.size _).grown hgrow (by have := hbel.out.size; simp; omega) (fun x hx => (hrow.out.lt x hx).1)
          have HO2 := Lib.hid hown2
          have HBE2 := Lib.hid hbel2
          clear hown2 hbel2 hown' hgrow
          go_wp2_with fail
          go_roundw
          case rel => exact ⟨j + 1, by go_num, by omega, HO2, HBE2⟩
          case measure => simp [intOf]; omega
        · have d1' : ¬ (97 : Int) ≤ (sh[j].toNat : Int) := by omega
          rw [if_neg d1, List.append_nil] at hsucc
          have HSU := Lib.hid hsucc; clear hsucc hgk
          go_wp2_with fail
          go_roundw
          case rel => exact ⟨j + 1, by go_num, by omega, by rw [HSU.out]; exact hrow, hbel⟩
          case measure => simp [intOf]; omega
      · have hlti : ¬ (j : Int) < (sh.size : Int) := by omega
        have hje : j = sh.size := by omega
        have htk : sh.data.toList.take j = sh.data.toList := List.take_of_length_le (by rw [HLL.out]; omega)
        rw [htk] at hrow
        obtain ⟨A9, c9, rfl, hA9⟩ := bytes_of_row hrow.out
        have HA9 := Lib.hid hA9; clear hA9
        clear htk
        generalize hL : small sh.data.toList = L at *
        have hLl : L.length ≤ 5 := by
          rw [← hL]
          refine Nat.le_trans (List.length_filter_le _ _) ?_
          rw [HLL.out]; omega
        have hb14 : Below W1.heap.size W1 wr := HB4.out.trans (hbel.out.mono HB4.out.size)
        have HB14 := Lib.hid hb14
        obtain ⟨p0, p1, p2, p3, p4, p5, p6, p7, p8, pf⟩ := HQ.out wr hb14
        clear hb14 hL
        obtain ⟨x, rfl⟩ : ∃ x : Nat, at_ = (x : Int) := ⟨at_.toNat, by have := HAT0.out; omega⟩
        have hx255 : x ≤ 255 := by have := HAT1.out; omega
        obtain ⟨i, hi⟩ : ∃ i, x % 5 = i := ⟨_, rfl⟩
        have hi5' : i < 5 := by omega
        have hrem : ((x : Int)).tmod 5 = (i : Int) := by rw [Int.tmod_eq_emod_of_nonneg (by omega)]; omega
        have hi0 : (0 : Int) ≤ (i : Int) := by omega
        have hi5'' : (i : Int) < 5 := by omega
        clear hi hx255
        have hAl : ∀ j, j < 5 → wr.cell? ⟨w.heap.size, 1 + j, none⟩ = some (.int .i64 ([a0, a1, a2, a3, a4].getD j 0)) := fun j hj => by
          match j, hj with
          | 0, _ => exact p1
          | 1, _ => exact p2
          | 2, _ => exact p3
          | 3, _ => exact p4
          | 4, _ => exact p5
        have hset : ∀ j, j < 5 → (wr.setCell ⟨w.heap.size, 1 + i, none⟩ (.int .i64 v)).cell? ⟨w.heap.size, 1 + j, none⟩ = some (.int .i64 (([a0, a1, a2, a3, a4].set i v).getD j 0)) := fun j hj => by
          by_cases e : j = i
          · subst e
            rw [World.cell?_setCell_same' _ _ _ (by rw [hAl j hj]; rfl), List.getD_eq_getElem?_getD, List.getElem?_set_self (by simpa using hj)]; rfl
          · rw [World.cell?_setCell_other _ _ _ _ (by simp <;> omega), hAl j hj, List.getD_eq_getElem?_getD, List.getD_eq_getElem?_getD, List.getElem?_set_ne (by omega)]
        have pc := hAl i hi5'
        obtain ⟨b0, b1, b2, b3, b4, hAB⟩ : ∃ b0 b1 b2 b3 b4, [a0, a1, a2, a3, a4].set i v = [b0, b1, b2, b3, b4] := by
          match i, hi5' with
          | 0, _ => exact ⟨_, _, _, _, _, rfl⟩
          | 1, _ => exact ⟨_, _, _, _, _, rfl⟩
          | 2, _ => exact ⟨_, _, _, _, _, rfl⟩
          | 3, _ => exact ⟨_, _, _, _, _, rfl⟩
          | 4, _ => exact ⟨_, _, _, _, _, rfl⟩
        have hbi : [b0, b1, b2, b3, b4].getD i 0 = v := by rw [← hAB, List.getD_eq_getElem?_getD, List.getElem?_set_self (by simpa using hi5')]; rfl
        rw [hAB] at hset
        have s1 := hset 0 (by omega)
        have s2 := hset 1 (by omega)
        have s3 := hset 2 (by omega)
        have s4 := hset 3 (by omega)
        have s5 := hset 4 (by omega)
        have hoth : ∀ j, j = 0 ∨ 6 ≤ j → (wr.setCell ⟨w.heap.size, 1 + i, none⟩ (.int .i64 v)).cell? ⟨w.heap.size, j, none⟩ = wr.cell? ⟨w.heap.size, j, none⟩ := fun j hj => World.cell?_setCell_other _ _ _ _ (by simp <;> omega)
        have s0 := (hoth 0 (by omega)).trans p0
        have s6 := (hoth 6 (by omega)).trans p6
        have s7 := (hoth 7 (by omega)).trans p7
        have s8 := (hoth 8 (by omega)).trans p8
        have hHSZ := HSZ.out
        have hsW4 := HB4.out.size
        have HW6 := Lib.hid (HBW.out.trans (HB14.out.mono HBW.out.size) |>.setCell (p := ⟨w.heap.size, 1 + i, none⟩) (Nat.le_refl _) (.int .i64 v))
        have HI6 : Hid (Ints (wr.setCell ⟨w.heap.size, 1 + i, none⟩ (.int .i64 v)) A' ys) := Lib.hid (ints_setCell (HIW.out.below HB14.out) _ _ HFAR.out)
        have HG6 : Hid (Gl (wr.setCell ⟨w.heap.size, 1 + i, none⟩ (.int .i64 v))) := Lib.hid (HG.out.below HW6.out HG.out.2.2)
        have HBI := Lib.hid hbi
        clear hAl hset hoth p0 p1 p2 p3 p4 p5 p6 p7 p8 hbi hAB
        have HREF : Hid (((L.length ≤ i ∧ v ≠ 0) ∨ (i < L.length ∧ takesP (L.getD i 0).toNat v = false)) → checkP n [b0, b1, b2, b3, b4] s.size t.size ys = 22) :=
          Lib.hid (fun h => HRF.out [b0, b1, b2, b3, b4] i (by simpa using hi5') (by rw [HBI.out]; exact h))
        have hnat := pf (1 + i)
        generalize hLn : L.length = Ln at *
        by_cases hil : i < Ln
        · have hil' : (i : Int) < (Ln : Int) := by omega
          obtain ⟨g9, rfl, hg9, hc9⟩ := HA9.out i hil
          have hc9' : (wr.setCell ⟨w.heap.size, 1 + i, none⟩ (.int .i64 v)).cell? ⟨g9, i, none⟩ = some (.int .u8 ((L.getD i 0).toNat : Int)) := by
            rw [World.cell?_setCell_far _ _ _ _ (by simp; omega)]; exact hc9
          generalize hq : (L.getD i 0).toNat = q at *
          by_cases htk : takesP q v = true
          · go_wp2_with fail
            refine (rtakes_any _ _ _).mono ?_
            rintro e w' ⟨rfl, rfl⟩
            go_wp2_with fail
            refine (lives_any _ HG6.out).mono ?_
            rintro e w7 ⟨rfl, hb7⟩
            go_wp2_with fail
            go_ret
            exact ⟨rfl, HW6.out.trans (hb7.mono HW6.out.size)⟩
          · have htk' : takesP q v = false := by simpa using htk
            have HR := Lib.hid (HREF.out (.inr ⟨hil, htk'⟩))
            go_wp2_with fail
            refine (rtakes_any _ _ _).mono ?_
            rintro e w' ⟨rfl, rfl⟩
            go_wp2_with fail
            refine (own_m n b0 b1 b2 b3 b4 s t A' ys k c' HK.out HKL.out _ HI6.out).mono ?_
            rintro e w7 ⟨A2, c2, rfl, hI7, hb7, -⟩
            have HB7 := Lib.hid hb7; clear hb7
            have HG7 := Lib.hid (HG6.out.later HB7.out)
            go_wp2_with fail
            refine (Check_R HR HS.out HT.out HK HKL.out A2 c2 w7 HG7.out hI7.out).mono ?_
            rintro e w8 ⟨rfl, hb8⟩
            have HB8 := Lib.hid hb8; clear hb8
            go_wp2_with fail
            refine (lives_any w8 (HG7.out.later HB8.out)).mono ?_
            rintro e w9 ⟨rfl, hb9⟩
            go_wp2_with fail
            go_ret
            exact ⟨rfl, (((HW6.out.trans (HB7.out.mono HW6.out.size)).trans (HB8.out.mono (Nat.le_trans HW6.out.size HB7.out.size)))).trans (hb9.mono (Nat.le_trans (Nat.le_trans HW6.out.size HB7.out.size) HB8.out.size))⟩
        · have hil' : ¬ (i : Int) < (Ln : Int) := by omega
          have hil2 : (Ln : Int) ≤ (i : Int) := by omega
          by_cases hv : v = 0
          · subst hv
            go_wp2_with fail
            refine (lives_any _ HG6.out).mono ?_
            rintro e w7 ⟨rfl, hb7⟩
            go_wp2_with fail
            go_ret
            exact ⟨rfl, HW6.out.trans (hb7.mono HW6.out.size)⟩
          · have hv' : (v == 0) = false := by simpa using hv
            have HR := Lib.hid (HREF.out (.inl ⟨by omega, hv⟩))
            go_wp2_with fail
            refine (own_m n b0 b1 b2 b3 b4 s t A' ys k c' HK.out HKL.out _ HI6.out).mono ?_
            rintro e w7 ⟨A2, c2, rfl, hI7, hb7, -⟩
            have HB7 := Lib.hid hb7; clear hb7
            have HG7 := Lib.hid (HG6.out.later HB7.out)
            go_wp2_with fail
            refine (Check_R HR HS.out HT.out HK HKL.out A2 c2 w7 HG7.out hI7.out).mono ?_
            rintro e w8 ⟨rfl, hb8⟩
            have HB8 := Lib.hid hb8; clear hb8
            go_wp2_with fail
            refine (lives_any w8 (HG7.out.later HB8.out)).mono ?_
            rintro e w9 ⟨rfl, hb9⟩
            go_wp2_with fail
            go_ret
            exact ⟨rfl, (((HW6.out.trans (HB7.out.mono HW6.out.size)).trans (HB8.out.mono (Nat.le_trans HW6.out.size HB7.out.size)))).trans (hb9.mono (Nat.le_trans (Nat.le_trans HW6.out.size HB7.out.size) HB8.out.size))⟩
theorem u8b {x : Int} (h : (Lit.int .u8 x).wf = true) : 0 ≤ x ∧ x ≤ 255 := by
  simp [Lit.wf] at h
  exact h
set_option maxRecDepth 100000 in
theorem contract (H : Type) (enc : TypeId × Value → H) (W : World) (base : Nat) (args : Array Value) (ds gs : List (DataW H)) (before : List MemPlace)
    (hval : ∀ (j : Nat) t v, Tryd.f5.params[j]? = some t → args[j]? = some v → Value.okWide Tryd.prog W .any base t v)
    (hW : DataW.Whole enc Tryd.prog Tryd.f5.params.toList Rows.reqsRestSpec.vars false W args.toList ds gs before) (hL : laidMetH Tryd.prog laid4 W) (hsh : W.ShapedOpen Tryd.prog) :
    Calls Tryd.prog 5 args W fun e W' => ∃ v, e = .returned v ∧ Rows.reqsRestSpec.post enc Tryd.prog Tryd.f5 false true false false W args v W' := by
  have hW' := hW
  obtain ⟨p, q, hA0, hV, rfl, hfz, hnd⟩ := hW
  have hA : DataW.TrodAll enc Tryd.prog W 0 (fun _ => true) true Tryd.f5.params.toList args.toList ds p := hA0
  rw [Tryd.params5] at hA hval
  obtain ⟨v0, vs0, d0, ds0, p0, q0, hargs, rfl, rfl, h0, r0⟩ := trodAll_cons hA
  obtain ⟨v1, vs1, d1, ds1, p1, q1, rfl, rfl, rfl, h1, r1⟩ := trodAll_cons r0
  obtain ⟨v2, vs2, d2, ds2, p2, q2, rfl, rfl, rfl, h2, r2⟩ := trodAll_cons r1
  obtain ⟨rfl, rfl, rfl⟩ := trodAll_nil r2
  obtain rfl : args = #[v0, v1, v2] := by cases args; simp_all
  obtain ⟨rfl, rfl⟩ := trodVars_none hV
  have h0k := h0
  obtain ⟨no, a0, a1, a2, a3, a4, s, t, A, m, c, zs, rfl, hm, hc, hI, hs, ht⟩ := open_req (hval 0 25 v0 rfl rfl) h0
  obtain ⟨x1, rfl, rfl, rfl, w1⟩ := open_int Tryd.underlying5 (hval 1 5 v1 rfl rfl) h1
  obtain ⟨x2, rfl, rfl, rfl, w2⟩ := open_int Tryd.underlying3 (hval 2 3 v2 rfl rfl) h2
  clear hA0
  simp only [List.append_nil] at hW'
  have hlt : ∀ x ∈ p0, x.block < W.heap.size := fun x hx => hW'.lt x (by simp [hx])
  refine (walk no a0 a1 a2 a3 a4 s t A zs m c hm hc hs ht x1 x2 (u8b w1).1 (u8b w1).2 W (gl_of hL hsh) hI).mono fun e W' ⟨he, hb⟩ => ?_
  subst he
  refine ⟨_, rfl, _, _, _, [], p0 ++ (([] ++ []) ++ []), [], hW', ?_, ?_, rfl, hb.frame _, fun h => by cases h⟩
  · exact trodAll_cons_mk (shut_bool Tryd.underlying4 _) trodAll_mk0
  · exact trodAll_cons_mk (Below.trod laidOut (by kernel_rfl) (of_decide_eq_true (by kernel_rfl)) h0k hb hlt) (trodAll_cons_mk (shut_int Tryd.underlying5 w1) (trodAll_cons_mk (shut_int Tryd.underlying3 w2) trodAll_mk0))
theorem reads (os : Os) {H : Type} (enc : TypeId × Value → H) : ∃ places, DataW.whole enc Tryd.prog ((laidWorld os).forCall (fun _ _ => 0) ⟨#[], #[Value.agg #[.int .i64 0, .int .i64 0, .int .i64 0, .int .i64 0, .int .i64 0, .int .i64 0, .string ByteArray.empty, .string ByteArray.empty, .slice none 0 0], .int .u8 0, .int .i64 0], []⟩).memory Tryd.f5.params.toList Rows.reqsRestSpec.vars false #[Value.agg #[.int .i64 0, .int .i64 0, .int .i64 0, .int .i64 0, .int .i64 0, .int .i64 0, .string ByteArray.empty, .string ByteArray.empty, .slice none 0 0], .int .u8 0, .int .i64 0].toList 8 = some ([.agg [.lit (.int .i64 0), .agg [.lit (.int .i64 0), .lit (.int .i64 0), .lit (.int .i64 0), .lit (.int .i64 0), .lit (.int .i64 0)], .lit (.string []), .lit (.string []), .nil], .lit (.int .u8 0), .lit (.int .i64 0)], [], places) :=
  ⟨[], by kernel_rfl⟩
set_option maxRecDepth 100000 in
theorem lifted (os : Os) (started : os.Started) (H : Type) (enc : TypeId × Value → H) (F : Stop.Interp) :
    ReturnsInHanded {} Tryd.checked os 5 .any ((OpenSpec.ofChange Rows.reqsRestSpec).preRow enc Tryd.prog Tryd.f5 Rows.reqsRestRow.domain false Rows.reqsRestRow.laid) (((OpenSpec.ofChange Rows.reqsRestSpec).at F).post enc Tryd.prog Tryd.f5 false true false false) := by
  obtain ⟨places, hx⟩ := reads os enc
  refine returnsInHanded_of_row (C := Tryd.checked) (s := OpenSpec.ofChange Rows.reqsRestSpec) own started (by kernel_rfl) Tryd.func5
    (witness_row_atRef (enc := enc) (C := Tryd.checked) false (laidWorld os) #[Value.agg #[.int .i64 0, .int .i64 0, .int .i64 0, .int .i64 0, .int .i64 0, .int .i64 0, .string ByteArray.empty, .string ByteArray.empty, .slice none 0 0], .int .u8 0, .int .i64 0] rfl (by kernel_rfl) (by kernel_rfl) (by kernel_rfl)
      (OpenSpec.preRow_of_cond 8 hx (by kernel_rfl) (fun k hk => by cases hk) (by kernel_rfl) (laid_met os _))) ?_
  intro W base args ds gs before hval hW _ _ _ hL hsh _
  exact contract H enc W base args ds gs before hval hW hL hsh
theorem said : Rows.ReqsRestSaid :=
  OpenClaim.holds_of_cond 5 Tryd.f5 rfl rfl rfl rfl rfl rfl rfl ⟨rfl, rfl, rfl, rfl, rfl⟩ rfl rfl rfl rfl rfl (by kernel_rfl) Tryd.func5 (by kernel_rfl)
    (of_decide_eq_true (by kernel_rfl)) (by unfold Func.isWrapper; first | (rw [if_pos (by decide +kernel)]; kernel_rfl) | (rw [if_neg (by decide +kernel)]; exact ⟨rfl, rfl⟩))
    (fun os started H enc _ F => by rw [OpenClaim.pre_eq_preRow]; exact lifted os started H enc F)
theorem plain (f : FuncId) (fn : Func) (hf : Tryd.pinned.checked.prog.funcNamed "purlieu/purlieulaw16.ReqsRest" = some f) (hfn : Tryd.pinned.checked.prog.funcs[f]? = some fn) :
    false = Tryd.pinned.checked.prog.looks [] ∧ ∀ (j : Nat) t, fn.params[j]? = some t → Tryd.pinned.checked.prog.wantsStandIn t = false := by
  obtain rfl : f = 5 := Option.some.inj ((show Tryd.prog.funcNamed "purlieu/purlieulaw16.ReqsRest" = some 5 by kernel_rfl).symm.trans hf) |>.symm
  obtain rfl : fn = Tryd.f5 := (Option.some.inj (Tryd.func5.symm.trans hfn)).symm
  refine ⟨by kernel_rfl, fun j t ht => ?_⟩
  rw [Tryd.params5] at ht
  have := Array.mem_of_getElem? ht
  simp only [List.mem_toArray, List.mem_cons, List.not_mem_nil, or_false] at this
  rcases this with rfl | rfl | rfl
  · exact (show Tryd.prog.wantsStandIn 25 = false by kernel_rfl)
  · exact (show Tryd.prog.wantsStandIn 5 = false by kernel_rfl)
  · exact (show Tryd.prog.wantsStandIn 3 = false by kernel_rfl)
/-- The card. -/
theorem card : Rows.ReqsRestCardSaid :=
  Claim7.holds_tied_plain_at .later [] _ _ _ _ said (fun _ h => by cases h) (by kernel_rfl) (fun _ h => by cases h) reqsRest_row_tie rfl ⟨rfl, rfl⟩ (by kernel_rfl) rfl plain (by kernel_rfl)
end Go.Proofs.YtmjlfknkembhnaaDoor.lawRest
