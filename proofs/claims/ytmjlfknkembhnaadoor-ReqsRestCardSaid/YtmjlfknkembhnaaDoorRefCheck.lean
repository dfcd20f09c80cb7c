/- The reference's Check: what it answers a request. Conditions: those named. -/
import Derived.Test.YtmjlfknkembhnaaDoorRefGet
namespace Go.Proofs.YtmjlfknkembhnaaDoor
open Go Go.RowKit
/-- What is asked last. -/
def refEnd (A zs : List Int) (S T : Nat) (at' s t l : Nat) (rt : Bool) : Int :=
  if (A.drop at').any (· != 0) then 22 else if s < S ∨ t < T ∨ l < zs.length ∨ (rt = true ∧ zs.length ≠ 2) then 22 else 0
/-- The reference's going through a shape, letter by letter. -/
def refGo (A zs : List Int) (S T : Nat) : List UInt8 → Nat → Nat → Nat → Nat → Bool → Int
  | [], at', s, t, l, rt => refEnd A zs S T at' s t l rt
  | x :: sh, at', s, t, l, rt =>
    if x.toNat = 83 then refGo A zs S T sh at' 4096 t l rt else if x.toNat = 89 then refGo A zs S T sh at' 4096 t l rt
    else if x.toNat = 66 then refGo A zs S T sh at' 256 t l rt else if x.toNat = 84 then refGo A zs S T sh at' s 4096 l rt
    else if x.toNat = 76 then refGo A zs S T sh at' s t 4 rt else if x.toNat = 73 then refGo A zs S T sh at' s t 64 rt
    else if x.toNat = 82 then refGo A zs S T sh at' s t 2 true
    else if x.toNat = 80 then (if zs.length % 2 = 1 then 22 else if oddOk zs then refGo A zs S T sh at' s t 16 rt else 22)
    else if takesP x.toNat (A.getD at' 0) then refGo A zs S T sh (at' + 1) s t l rt else 22
def rcheckP (no : Int) (A : List Int) (S T : Nat) (zs : List Int) : Int := if no < 1 ∨ 64 < no then 78 else refGo A zs S T (shapeOf no.toNat).data.toList 0 0 0 0 false
section
variable {A zs : List Int} {S T : Nat} {x : UInt8} {sh : List UInt8} {at' s t l : Nat} {rt : Bool}
theorem go83 (h : x.toNat = 83) : refGo A zs S T (x :: sh) at' s t l rt = refGo A zs S T sh at' 4096 t l rt := by rw [refGo]; simp [h]
theorem go89 (h : x.toNat = 89) : refGo A zs S T (x :: sh) at' s t l rt = refGo A zs S T sh at' 4096 t l rt := by rw [refGo]; simp [h]
theorem go66 (h : x.toNat = 66) : refGo A zs S T (x :: sh) at' s t l rt = refGo A zs S T sh at' 256 t l rt := by rw [refGo]; simp [h]
theorem go84 (h : x.toNat = 84) : refGo A zs S T (x :: sh) at' s t l rt = refGo A zs S T sh at' s 4096 l rt := by rw [refGo]; simp [h]
theorem go76 (h : x.toNat = 76) : refGo A zs S T (x :: sh) at' s t l rt = refGo A zs S T sh at' s t 4 rt := by rw [refGo]; simp [h]
theorem go73 (h : x.toNat = 73) : refGo A zs S T (x :: sh) at' s t l rt = refGo A zs S T sh at' s t 64 rt := by rw [refGo]; simp [h]
theorem go82 (h : x.toNat = 82) : refGo A zs S T (x :: sh) at' s t l rt = refGo A zs S T sh at' s t 2 true := by rw [refGo]; simp [h]
theorem go80 (h : x.toNat = 80) : refGo A zs S T (x :: sh) at' s t l rt = if zs.length % 2 = 1 then 22 else if oddOk zs then refGo A zs S T sh at' s t 16 rt else 22 := by rw [refGo]; simp [h]
theorem goX (h1 : x.toNat ≠ 83) (h2 : x.toNat ≠ 89) (h3 : x.toNat ≠ 66) (h4 : x.toNat ≠ 84) (h5 : x.toNat ≠ 76) (h6 : x.toNat ≠ 73) (h7 : x.toNat ≠ 82) (h8 : x.toNat ≠ 80) :
    refGo A zs S T (x :: sh) at' s t l rt = if takesP x.toNat (A.getD at' 0) then refGo A zs S T sh (at' + 1) s t l rt else 22 := by rw [refGo]; simp [*]
end
set_option maxRecDepth 100000 in
set_option maxHeartbeats 8000000 in
theorem rcheck_any (no a0 a1 a2 a3 a4 : Int) (s t : ByteArray) (P : Option Addr) (zs : List Int) (c : Nat) (hl : zs.length ≤ 1000) (w : World) (hI : Ints w P zs) :
    Calls Tryd.prog 11 #[.agg #[.int .i64 no, .int .i64 a0, .int .i64 a1, .int .i64 a2, .int .i64 a3, .int .i64 a4, .string s, .string t, .slice P zs.length c]] w fun e w' =>
      e = .returned (.int .i64 (rcheckP no [a0, a1, a2, a3, a4] s.size t.size zs)) ∧ Below w.heap.size w w' := by
  generalize hR : rcheckP no [a0, a1, a2, a3, a4] s.size t.size zs = R
  unfold rcheckP at hR
  have HI := Lib.hid hI; clear hI
  by_cases hno : no < 1 ∨ 64 < no
  · rw [if_pos hno] at hR
    have HR := Lib.hid hR; clear hR
    have HNO := Lib.hid hno; clear hno
    go_enter Tryd.func11, Tryd.ntmps11
    go_wp2_with fail
    refine (rGet_out _ _ HNO.out).mono ?_
    rintro e w1 ⟨rfl, hb⟩
    go_wp2_with fail
    go_ret
    have h0 : Below w.heap.size w (w.alloc (.cells #[.int .i64 no, .int .i64 a0, .int .i64 a1, .int .i64 a2, .int .i64 a3, .int .i64 a4, .string s, .string t, .slice P zs.length c] 25)) := (Below.refl _ _).alloc (Nat.le_refl _) _
    exact ⟨by rw [← HR.out]; rfl, (h0.trans (hb.mono h0.size)).alloc (by have := h0.size; have := hb.size; omega) _⟩
  · rw [if_neg hno] at hR
    obtain ⟨n, rfl⟩ : ∃ n : Nat, no = n := ⟨no.toNat, by omega⟩
    rw [Int.toNat_natCast] at hR
    have h1 : 1 ≤ n := by omega
    have h2 : n ≤ 64 := by omega
    obtain ⟨hsh, _⟩ := shape_ok n h1 h2
    have HR := Lib.hid hR; clear hR hno
    go_enter Tryd.func11, Tryd.ntmps11
    go_wp2_with fail
    have hbx : Below w.heap.size w (w.alloc (.cells #[Value.int .i64 n, .int .i64 a0, .int .i64 a1, .int .i64 a2, .int .i64 a3, .int .i64 a4, .string s, .string t, .slice P zs.length c] 25)) := (Below.refl _ _).alloc (Nat.le_refl _) _
    have hrx : ∀ j, (w.alloc (.cells #[Value.int .i64 n, .int .i64 a0, .int .i64 a1, .int .i64 a2, .int .i64 a3, .int .i64 a4, .string s, .string t, .slice P zs.length c] 25)).cell? ⟨w.heap.size, j, none⟩ = (#[Value.int .i64 n, .int .i64 a0, .int .i64 a1, .int .i64 a2, .int .i64 a3, .int .i64 a4, .string s, .string t, .slice P zs.length c] : Array Value)[j]? := fun j => World.cell?_alloc_new _ _ _ _
    have hsx : (w.alloc (.cells #[Value.int .i64 n, .int .i64 a0, .int .i64 a1, .int .i64 a2, .int .i64 a3, .int .i64 a4, .string s, .string t, .slice P zs.length c] 25)).heap.size = w.heap.size + 1 := by simp
    generalize w.alloc (.cells #[Value.int .i64 n, .int .i64 a0, .int .i64 a1, .int .i64 a2, .int .i64 a3, .int .i64 a4, .string s, .string t, .slice P zs.length c] 25) = W0 at *
    refine (rGet_in n _ h1 h2).mono ?_
    rintro e W1 ⟨rfl, hb1⟩
    have hr1 : ∀ j, W1.cell? ⟨w.heap.size, j, none⟩ = (#[Value.int .i64 n, .int .i64 a0, .int .i64 a1, .int .i64 a2, .int .i64 a3, .int .i64 a4, .string s, .string t, .slice P zs.length c] : Array Value)[j]? := fun j => (hb1.cell (p := ⟨w.heap.size, j, none⟩) (by show w.heap.size < _; omega)).trans (hrx j)
    have hs1 : w.heap.size < W1.heap.size := by have := hb1.size; omega
    have hbw1 := hbx.trans (hb1.mono hbx.size)
    clear hrx hbx
    have HR1 := Lib.hid hr1; clear hr1
    go_wp2_with fail
    have hb2 : Below W1.heap.size W1 (W1.alloc (.cells #[Value.string (nameOf n), .string (shapeOf n), .int .i64 (gateOf n), .int .u32 (needA n), .int .u32 (needB n)] 36)) := (Below.refl _ _).alloc (Nat.le_refl _) _
    have hc1 : (W1.alloc (.cells #[Value.string (nameOf n), .string (shapeOf n), .int .i64 (gateOf n), .int .u32 (needA n), .int .u32 (needB n)] 36)).cell? ⟨W1.heap.size, 1, none⟩ = some (.string (shapeOf n)) := World.cell?_alloc_new _ _ _ _
    have hr2 := fun j => (hb2.cell (p := ⟨w.heap.size, j, none⟩) hs1).trans (HR1.out j)
    have r6 : (W1.alloc (.cells #[Value.string (nameOf n), .string (shapeOf n), .int .i64 (gateOf n), .int .u32 (needA n), .int .u32 (needB n)] 36)).cell? ⟨w.heap.size, 6, none⟩ = some (.string s) := hr2 6
    have r7 : (W1.alloc (.cells #[Value.string (nameOf n), .string (shapeOf n), .int .i64 (gateOf n), .int .u32 (needA n), .int .u32 (needB n)] 36)).cell? ⟨w.heap.size, 7, none⟩ = some (.string t) := hr2 7
    have r8 : (W1.alloc (.cells #[Value.string (nameOf n), .string (shapeOf n), .int .i64 (gateOf n), .int .u32 (needA n), .int .u32 (needB n)] 36)).cell? ⟨w.heap.size, 8, none⟩ = some (.slice P zs.length c) := hr2 8
    have hA : ∀ i, i < 5 → (W1.alloc (.cells #[Value.string (nameOf n), .string (shapeOf n), .int .i64 (gateOf n), .int .u32 (needA n), .int .u32 (needB n)] 36)).cell? ⟨w.heap.size, 1 + i, none⟩ = some (.int .i64 ([a0, a1, a2, a3, a4].getD i 0)) := by
      intro i hi
      rw [hr2 (1 + i)]
      match i, hi with
      | 0, _ => rfl
      | 1, _ => rfl
      | 2, _ => rfl
      | 3, _ => rfl
      | 4, _ => rfl
    have hbw2 := hbw1.trans (hb2.mono (Nat.le_of_lt hs1))
    have hI2 : Ints (W1.alloc (.cells #[Value.string (nameOf n), .string (shapeOf n), .int .i64 (gateOf n), .int .u32 (needA n), .int .u32 (needB n)] 36)) P zs := HI.out.below hbw2
    generalize W1.alloc (.cells #[Value.string (nameOf n), .string (shapeOf n), .int .i64 (gateOf n), .int .u32 (needA n), .int .u32 (needB n)] 36) = W2 at *
    clear hr2 hb2 hb1
    generalize W1.heap.size = C at *
    have HA := Lib.hid hA; clear hA
    have HI2 := Lib.hid hI2; clear hI2
    have hAL : [a0, a1, a2, a3, a4].length = 5 := rfl
    generalize [a0, a1, a2, a3, a4] = A at *
    have HAL := Lib.hid hAL; clear hAL
    generalize hsn : shapeOf n = sh at *
    have HSN := Lib.hid hsn; clear hsn
    generalize hm : zs.length = m at *
    have HM := Lib.hid hm; clear hm
    clear HR1 HI
    go_loop [5, 6, 7, 8, 9, 10] (fun v5 v6 v7 v8 v9 v10 => ∃ (at' s' t' l' : Nat) (rt : Bool) (k : Nat), v5 = .int .i64 at' ∧ v6 = .int .i64 s' ∧ v7 = .int .i64 t' ∧ v8 = .int .i64 l' ∧ v9 = .bool rt ∧ v10 = .int .i64 k ∧
        at' ≤ k ∧ k ≤ sh.size ∧ s' ≤ 4096 ∧ t' ≤ 4096 ∧ l' ≤ 64 ∧ refGo A zs s.size t.size (sh.data.toList.drop k) at' s' t' l' rt = R)
      (fun _ _ _ _ _ v10 => sh.size - (intOf v10).toNat)
    case atStart => exact ⟨0, 0, 0, 0, false, 0, rfl, rfl, rfl, rfl, rfl, rfl, Nat.le_refl _, Nat.zero_le _, by omega, by omega, by omega, by rw [List.drop_zero]; exact HR.out⟩
    case round =>
      obtain ⟨at', s', t', l', rt, k, rfl, rfl, rfl, rfl, rfl, rfl, hak, hk, hs4, ht4, hl6, hgo⟩ := hrel
      by_cases hlt : k < sh.size
      · have hd : sh.data.toList.drop k = (sh[k]'hlt) :: sh.data.toList.drop (k + 1) := by
          rw [List.drop_eq_getElem_cons (by simpa using hlt)]; rfl
        rw [hd] at hgo
        clear hd
        generalize hx : sh[k]'hlt = x at *
        have hxn : (sh[k]'hlt).toNat = x.toNat := by rw [hx]
        clear hx
        by_cases h83 : x.toNat = 83
        · rw [go83 h83] at hgo
          have HGO := Lib.hid hgo; clear hgo
          rw [h83] at hxn; clear h83
          go_wp2_with fail
          go_round
          case rel => exact ⟨at', 4096, t', l', rt, k + 1, rfl, rfl, rfl, rfl, rfl, by go_num, by omega, by omega, by omega, by omega, by omega, HGO.out⟩
          case measure => simp [intOf]; omega
        by_cases h89 : x.toNat = 89
        · rw [go89 h89] at hgo
          have HGO := Lib.hid hgo; clear hgo
          rw [h89] at hxn; clear h89
          go_wp2_with fail
          go_round
          case rel => exact ⟨at', 4096, t', l', rt, k + 1, rfl, rfl, rfl, rfl, rfl, by go_num, by omega, by omega, by omega, by omega, by omega, HGO.out⟩
          case measure => simp [intOf]; omega
        by_cases h66 : x.toNat = 66
        · rw [go66 h66] at hgo
          have HGO := Lib.hid hgo; clear hgo
          rw [h66] at hxn; clear h66
          go_wp2_with fail
          go_round
          case rel => exact ⟨at', 256, t', l', rt, k + 1, rfl, rfl, rfl, rfl, rfl, by go_num, by omega, by omega, by omega, by omega, by omega, HGO.out⟩
          case measure => simp [intOf]; omega
        by_cases h84 : x.toNat = 84
        · rw [go84 h84] at hgo
          have HGO := Lib.hid hgo; clear hgo
          rw [h84] at hxn; clear h84
          go_wp2_with fail
          go_round
          case rel => exact ⟨at', s', 4096, l', rt, k + 1, rfl, rfl, rfl, rfl, rfl, by go_num, by omega, by omega, by omega, by omega, by omega, HGO.out⟩
          case measure => simp [intOf]; omega
        by_cases h76 : x.toNat = 76
        · rw [go76 h76] at hgo
          have HGO := Lib.hid hgo; clear hgo
          rw [h76] at hxn; clear h76
          go_wp2_with fail
          go_round
          case rel => exact ⟨at', s', t', 4, rt, k + 1, rfl, rfl, rfl, rfl, rfl, by go_num, by omega, by omega, by omega, by omega, by omega, HGO.out⟩
          case measure => simp [intOf]; omega
        by_cases h73 : x.toNat = 73
        · rw [go73 h73] at hgo
          have HGO := Lib.hid hgo; clear hgo
          rw [h73] at hxn; clear h73
          go_wp2_with fail
          go_round
          case rel => exact ⟨at', s', t', 64, rt, k + 1, rfl, rfl, rfl, rfl, rfl, by go_num, by omega, by omega, by omega, by omega, by omega, HGO.out⟩
          case measure => simp [intOf]; omega
        by_cases h82 : x.toNat = 82
        · rw [go82 h82] at hgo
          have HGO := Lib.hid hgo; clear hgo
          rw [h82] at hxn; clear h82
          go_wp2_with fail
          go_round
          case rel => exact ⟨at', s', t', 2, true, k + 1, rfl, rfl, rfl, rfl, rfl, by go_num, by omega, by omega, by omega, by omega, by omega, HGO.out⟩
          case measure => simp [intOf]; omega
        by_cases h80 : x.toNat = 80
        · rw [go80 h80, HM.out] at hgo
          rw [h80] at hxn; clear h80 h83 h89 h66 h84 h76 h73 h82
          by_cases ho : m % 2 = 1
          · rw [if_pos ho] at hgo
            have HGO := Lib.hid hgo; clear hgo
            have ho' : (((m : Int) % 2) == 1) = true := by rw [beq_iff_eq]; omega
            clear ho
            go_wp2_with fail
            go_ret
            exact ⟨by rw [← HGO.out]; rfl, hbw2⟩
          · rw [if_neg ho] at hgo
            have HGO := Lib.hid hgo; clear hgo
            have ho' : (((m : Int) % 2) == 1) = false := by rw [beq_eq_false_iff_ne]; omega
            clear ho
            go_wp2_with fail
            go_loop [12] (fun v => ∃ j : Nat, v = .int .i64 j ∧ j ≤ m + 1 ∧ j % 2 = 1 ∧ okUpto zs j) (fun v => m + 2 - (intOf v).toNat)
            case atStart => exact ⟨1, rfl, by omega, rfl, fun i hi _ hoi => by omega⟩
            case round =>
              obtain ⟨j, rfl, hj, hodd, hok⟩ := hrel
              have HOK := Lib.hid hok; clear hok
              by_cases hjm : j < m
              · obtain ⟨b, off, rfl, hblt, hcell⟩ := HI2.out j (by rw [HM.out]; exact hjm)
                have hnext : 1 ≤ zs.getD j 0 → zs.getD j 0 ≤ 3 → okUpto zs (j + 2) := fun q1 q2 i hi hil hoi => by
                  by_cases e : i = j
                  · subst e; exact ⟨q1, q2⟩
                  · exact HOK.out i (by omega) hil hoi
                have hnot : zs.getD j 0 < 1 ∨ 3 < zs.getD j 0 → R = 22 := fun h => by
                  have := oddOk_not zs j (by rw [HM.out]; exact hjm) hodd h
                  rw [← HGO.out, this]; rfl
                generalize hy : zs.getD j 0 = y at *
                have HY := Lib.hid hy; clear hy
                have HNX := Lib.hid hnext; clear hnext
                have HNT := Lib.hid hnot; clear hnot
                have HODD := Lib.hid hodd; clear hodd
                by_cases hy1 : 1 ≤ y
                · by_cases hy3 : y ≤ 3
                  · go_wp2_with fail
                    go_round
                    case rel => exact ⟨j + 2, by go_num, by omega, by have := HODD.out; omega, HNX.out hy1 hy3⟩
                    case measure => simp [intOf]; omega
                  · go_wp2_with fail
                    go_ret
                    exact ⟨by rw [HNT.out (.inr (by omega))]; rfl, hbw2⟩
                · go_wp2_with fail
                  go_ret
                  exact ⟨by rw [HNT.out (.inl (by omega))]; rfl, hbw2⟩
              · have hall : okUpto zs zs.length := fun i hi _ hoi => HOK.out i (by rw [HM.out] at hi; omega) hi hoi
                have hR := HGO.out
                rw [if_pos (oddOk_of zs hall)] at hR
                have HR' := Lib.hid hR; clear hR
                go_wp2_with fail
                go_round
                case rel => exact ⟨at', s', t', 16, rt, k + 1, rfl, rfl, rfl, rfl, rfl, by go_num, by omega, by omega, by omega, by omega, by omega, HR'.out⟩
                case measure => simp [intOf]; omega
        have h5 : at' < 5 := by omega
        have hcell := HA.out at' h5
        rw [goX h83 h89 h66 h84 h76 h73 h82 h80] at hgo
        generalize hy : A.getD at' 0 = y at *
        have HY := Lib.hid hy; clear hy
        have g1 : ((x.toNat : Int) == 83) = false := by rw [beq_eq_false_iff_ne]; omega
        have g2 : ((x.toNat : Int) == 89) = false := by rw [beq_eq_false_iff_ne]; omega
        have g3 : ((x.toNat : Int) == 66) = false := by rw [beq_eq_false_iff_ne]; omega
        have g4 : ((x.toNat : Int) == 84) = false := by rw [beq_eq_false_iff_ne]; omega
        have g5 : ((x.toNat : Int) == 76) = false := by rw [beq_eq_false_iff_ne]; omega
        have g6 : ((x.toNat : Int) == 73) = false := by rw [beq_eq_false_iff_ne]; omega
        have g7 : ((x.toNat : Int) == 82) = false := by rw [beq_eq_false_iff_ne]; omega
        have g8 : ((x.toNat : Int) == 80) = false := by rw [beq_eq_false_iff_ne]; omega
        clear h83 h89 h66 h84 h76 h73 h82 h80
        cases htk : takesP x.toNat y with
        | true =>
          rw [htk, if_pos rfl] at hgo
          have HGO := Lib.hid hgo; clear hgo
          go_wp2_with (go_at_call 14; refine (rtakes_any _ _ _).mono ?_; rintro e w' ⟨rfl, rfl⟩)
          go_round
          case rel => exact ⟨at' + 1, s', t', l', rt, k + 1, by go_num, rfl, rfl, rfl, rfl, by go_num, by omega, by omega, by omega, by omega, by omega, HGO.out⟩
          case measure => simp [intOf]; omega
        | false =>
          rw [htk] at hgo
          have HGO := Lib.hid hgo; clear hgo
          go_wp2_with (go_at_call 14; refine (rtakes_any _ _ _).mono ?_; rintro e w' ⟨rfl, rfl⟩)
          go_ret
          exact ⟨by rw [← HGO.out]; rfl, hbw2⟩
      · rw [List.drop_of_length_le (by simp; omega), refGo] at hgo
        unfold refEnd at hgo
        rw [HM.out] at hgo
        have HGO := Lib.hid hgo; clear hgo
        go_wp2_with fail
        go_loop [13] (fun v => ∃ i : Nat, v = .int .i64 i ∧ at' ≤ i ∧ i ≤ 5 ∧ ∀ j, at' ≤ j → j < i → A.getD j 0 = 0) (fun v => 5 - (intOf v).toNat)
        case atStart => exact ⟨at', rfl, Nat.le_refl _, by omega, fun j h1 h2 => by omega⟩
        case round =>
          obtain ⟨i, rfl, hai, hi5, hz⟩ := hrel
          have HZ := Lib.hid hz; clear hz
          by_cases hi : i < 5
          · have hcell := HA.out i hi
            have hst : A.getD i 0 = 0 → ∀ j, at' ≤ j → j < i + 1 → A.getD j 0 = 0 := fun h0 j q1 q2 => by
              by_cases e : j = i
              · subst e; exact h0
              · exact HZ.out j q1 (by omega)
            have hbad : A.getD i 0 ≠ 0 → R = 22 := fun h0 => by
              rw [← HGO.out, if_pos]
              rw [List.any_eq_true]
              have hiA : i < A.length := by
                apply Classical.byContradiction
                intro hn
                exact h0 (by rw [List.getD_eq_getElem?_getD, List.getElem?_eq_none (by omega)]; rfl)
              refine ⟨A.getD i 0, ?_, by rw [bne_iff_ne]; exact h0⟩
              rw [List.getD_eq_getElem?_getD, List.getElem?_eq_getElem hiA]
              have : (A.drop at')[i - at']? = some (A[i]'hiA) := by
                rw [List.getElem?_drop, show at' + (i - at') = i by omega, List.getElem?_eq_getElem hiA]
              exact List.mem_of_getElem? this
            generalize hy : A.getD i 0 = y at *
            have HY := Lib.hid hy; clear hy
            have HST := Lib.hid hst; clear hst
            have HBAD := Lib.hid hbad; clear hbad
            by_cases h0 : y = 0
            · have h0' : (y != 0) = false := by rw [bne_eq_false_iff_eq]; exact h0
              have HN := Lib.hid (HST.out h0)
              clear h0
              go_wp2_with fail
              go_round
              case rel => exact ⟨i + 1, by go_num, by omega, by omega, HN.out⟩
              case measure => simp [intOf]; omega
            · have h0' : (y != 0) = true := by rw [bne_iff_ne]; exact h0
              have HN := Lib.hid (HBAD.out h0)
              clear h0
              go_wp2_with fail
              go_ret
              exact ⟨by rw [HN.out]; rfl, hbw2⟩
          · have hz : (A.drop at').any (· != 0) = false := by
              rw [List.any_eq_false]
              intro v hv
              obtain ⟨j, hj, hvj⟩ := List.getElem_of_mem hv
              have h1 := HZ.out (at' + j) (by omega) (by rw [List.length_drop] at hj; have := HAL.out; omega)
              rw [List.getElem_drop] at hvj
              rw [List.getD_eq_getElem?_getD, List.getElem?_eq_getElem (by rw [List.length_drop] at hj; omega)] at h1
              simp only [Option.getD_some] at h1
              rw [← hvj, h1]; simp
            have hR := HGO.out
            rw [hz] at hR
            simp only [Bool.false_eq_true, if_false] at hR
            clear hz
            by_cases hS : s' < s.size
            · have hR' : R = 22 := by rw [← hR]; simp [hS]
              have HR' := Lib.hid hR'; clear hR' hR
              go_wp2_with fail
              go_ret
              exact ⟨by rw [HR'.out]; rfl, hbw2⟩
            · by_cases hT : t' < t.size
              · have hR' : R = 22 := by rw [← hR]; simp [hT]
                have HR' := Lib.hid hR'; clear hR' hR
                go_wp2_with fail
                go_ret
                exact ⟨by rw [HR'.out]; rfl, hbw2⟩
              · by_cases hL : l' < m
                · have hR' : R = 22 := by rw [← hR]; simp [hL]
                  have HR' := Lib.hid hR'; clear hR' hR
                  go_wp2_with fail
                  go_ret
                  exact ⟨by rw [HR'.out]; rfl, hbw2⟩
                · cases rt with
                  | false =>
                    have hR' : R = 0 := by rw [← hR]; simp [hS, hT, hL]
                    have HR' := Lib.hid hR'; clear hR' hR
                    go_wp2_with fail
                    go_ret
                    exact ⟨by rw [HR'.out]; rfl, hbw2⟩
                  | true =>
                    by_cases h2' : m = 2
                    · have hR' : R = 0 := by rw [← hR]; simp [hS, hT, h2']; omega
                      have HR' := Lib.hid hR'; clear hR' hR
                      have h2'' : ((m : Int) != 2) = false := by rw [bne_eq_false_iff_eq]; omega
                      clear h2'
                      go_wp2_with fail
                      go_ret
                      exact ⟨by rw [HR'.out]; rfl, hbw2⟩
                    · have hR' : R = 22 := by rw [← hR]; simp [h2']
                      have HR' := Lib.hid hR'; clear hR' hR
                      have h2'' : ((m : Int) != 2) = true := by rw [bne_iff_ne]; omega
                      clear h2'
                      go_wp2_with fail
                      go_ret
                      exact ⟨by rw [HR'.out]; rfl, hbw2⟩
end Go.Proofs.YtmjlfknkembhnaaDoor
