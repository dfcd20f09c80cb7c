/- The reference's table of calls is the program's, part 0. Conditions: none. -/
import Derived.Test.YtmjlfknkembhnaaDoorGet
namespace Go.Proofs.YtmjlfknkembhnaaDoor
open Go Go.RowKit
theorem row1 : nameOf 1 = { data := #[101, 120, 105, 116] } ∧ shapeOf 1 = { data := #[101] } ∧ gateOf 1 = 0 ∧ needA 1 = 0 ∧ needB 1 = 0 := by decide +kernel
set_option maxRecDepth 100000 in
set_option maxHeartbeats 1000000 in
theorem rget1 (w : World) : Calls Tryd.prog 15 #[.int .i64 1] w fun e w' =>
    e = .returned (.tuple #[.agg #[.string (nameOf 1), .string (shapeOf 1), .int .i64 (gateOf 1), .int .u32 (needA 1), .int .u32 (needB 1)], .bool true]) ∧ Below w.heap.size w w' := by
  go_enter Tryd.func15, Tryd.ntmps15
  go_wp2
  have c := fun j => World.cell?_alloc_new w #[Value.string { data := #[101, 120, 105, 116] }, .string { data := #[101] }, .int .i64 0, .int .u32 0, .int .u32 0] 36 j
  refine bodyPost_ret (results_rget rfl rfl (c 0) (c 1) (c 2) (c 3) (c 4)) rfl ⟨?_, (Below.refl _ _).alloc (Nat.le_refl _) _⟩
  obtain ⟨h0, h1, h2, h3, h4⟩ := row1
  rw [h0, h1, h2, h3, h4]; rfl
theorem row2 : nameOf 2 = { data := #[102, 111, 114, 107] } ∧ shapeOf 2 = { data := #[] } ∧ gateOf 2 = 0 ∧ needA 2 = 0 ∧ needB 2 = 0 := by decide +kernel
set_option maxRecDepth 100000 in
set_option maxHeartbeats 1000000 in
theorem rget2 (w : World) : Calls Tryd.prog 15 #[.int .i64 2] w fun e w' =>
    e = .returned (.tuple #[.agg #[.string (nameOf 2), .string (shapeOf 2), .int .i64 (gateOf 2), .int .u32 (needA 2), .int .u32 (needB 2)], .bool true]) ∧ Below w.heap.size w w' := by
  go_enter Tryd.func15, Tryd.ntmps15
  go_wp2
  have c := fun j => World.cell?_alloc_new w #[Value.string { data := #[102, 111, 114, 107] }, .string { data := #[] }, .int .i64 0, .int .u32 0, .int .u32 0] 36 j
  refine bodyPost_ret (results_rget rfl rfl (c 0) (c 1) (c 2) (c 3) (c 4)) rfl ⟨?_, (Below.refl _ _).alloc (Nat.le_refl _) _⟩
  obtain ⟨h0, h1, h2, h3, h4⟩ := row2
  rw [h0, h1, h2, h3, h4]; rfl
theorem row3 : nameOf 3 = { data := #[114, 101, 97, 100] } ∧ shapeOf 3 = { data := #[102, 110] } ∧ gateOf 3 = 0 ∧ needA 3 = 1 ∧ needB 3 = 0 := by decide +kernel
set_option maxRecDepth 100000 in
set_option maxHeartbeats 1000000 in
theorem rget3 (w : World) : Calls Tryd.prog 15 #[.int .i64 3] w fun e w' =>
    e = .returned (.tuple #[.agg #[.string (nameOf 3), .string (shapeOf 3), .int .i64 (gateOf 3), .int .u32 (needA 3), .int .u32 (needB 3)], .bool true]) ∧ Below w.heap.size w w' := by
  go_enter Tryd.func15, Tryd.ntmps15
  go_wp2
  have c := fun j => World.cell?_alloc_new w #[Value.string { data := #[114, 101, 97, 100] }, .string { data := #[102, 110] }, .int .i64 0, .int .u32 1, .int .u32 0] 36 j
  refine bodyPost_ret (results_rget rfl rfl (c 0) (c 1) (c 2) (c 3) (c 4)) rfl ⟨?_, (Below.refl _ _).alloc (Nat.le_refl _) _⟩
  obtain ⟨h0, h1, h2, h3, h4⟩ := row3
  rw [h0, h1, h2, h3, h4]; rfl
theorem row4 : nameOf 4 = { data := #[119, 114, 105, 116, 101] } ∧ shapeOf 4 = { data := #[102, 66] } ∧ gateOf 4 = 0 ∧ needA 4 = 2 ∧ needB 4 = 0 := by decide +kernel
set_option maxRecDepth 100000 in
set_option maxHeartbeats 1000000 in
theorem rget4 (w : World) : Calls Tryd.prog 15 #[.int .i64 4] w fun e w' =>
    e = .returned (.tuple #[.agg #[.string (nameOf 4), .string (shapeOf 4), .int .i64 (gateOf 4), .int .u32 (needA 4), .int .u32 (needB 4)], .bool true]) ∧ Below w.heap.size w w' := by
  go_enter Tryd.func15, Tryd.ntmps15
  go_wp2
  have c := fun j => World.cell?_alloc_new w #[Value.string { data := #[119, 114, 105, 116, 101] }, .string { data := #[102, 66] }, .int .i64 0, .int .u32 2, .int .u32 0] 36 j
  refine bodyPost_ret (results_rget rfl rfl (c 0) (c 1) (c 2) (c 3) (c 4)) rfl ⟨?_, (Below.refl _ _).alloc (Nat.le_refl _) _⟩
  obtain ⟨h0, h1, h2, h3, h4⟩ := row4
  rw [h0, h1, h2, h3, h4]; rfl
theorem row5 : nameOf 5 = { data := #[111, 112, 101, 110] } ∧ shapeOf 5 = { data := #[103, 83] } ∧ gateOf 5 = 1 ∧ needA 5 = 0 ∧ needB 5 = 0 := by decide +kernel
set_option maxRecDepth 100000 in
set_option maxHeartbeats 1000000 in
theorem rget5 (w : World) : Calls Tryd.prog 15 #[.int .i64 5] w fun e w' =>
    e = .returned (.tuple #[.agg #[.string (nameOf 5), .string (shapeOf 5), .int .i64 (gateOf 5), .int .u32 (needA 5), .int .u32 (needB 5)], .bool true]) ∧ Below w.heap.size w w' := by
  go_enter Tryd.func15, Tryd.ntmps15
  go_wp2
  have c := fun j => World.cell?_alloc_new w #[Value.string { data := #[111, 112, 101, 110] }, .string { data := #[103, 83] }, .int .i64 1, .int .u32 0, .int .u32 0] 36 j
  refine bodyPost_ret (results_rget rfl rfl (c 0) (c 1) (c 2) (c 3) (c 4)) rfl ⟨?_, (Below.refl _ _).alloc (Nat.le_refl _) _⟩
  obtain ⟨h0, h1, h2, h3, h4⟩ := row5
  rw [h0, h1, h2, h3, h4]; rfl
theorem row6 : nameOf 6 = { data := #[99, 108, 111, 115, 101] } ∧ shapeOf 6 = { data := #[102] } ∧ gateOf 6 = 0 ∧ needA 6 = 0 ∧ needB 6 = 0 := by decide +kernel
set_option maxRecDepth 100000 in
set_option maxHeartbeats 1000000 in
theorem rget6 (w : World) : Calls Tryd.prog 15 #[.int .i64 6] w fun e w' =>
    e = .returned (.tuple #[.agg #[.string (nameOf 6), .string (shapeOf 6), .int .i64 (gateOf 6), .int .u32 (needA 6), .int .u32 (needB 6)], .bool true]) ∧ Below w.heap.size w w' := by
  go_enter Tryd.func15, Tryd.ntmps15
  go_wp2
  have c := fun j => World.cell?_alloc_new w #[Value.string { data := #[99, 108, 111, 115, 101] }, .string { data := #[102] }, .int .i64 0, .int .u32 0, .int .u32 0] 36 j
  refine bodyPost_ret (results_rget rfl rfl (c 0) (c 1) (c 2) (c 3) (c 4)) rfl ⟨?_, (Below.refl _ _).alloc (Nat.le_refl _) _⟩
  obtain ⟨h0, h1, h2, h3, h4⟩ := row6
  rw [h0, h1, h2, h3, h4]; rfl
theorem row7 : nameOf 7 = { data := #[119, 97, 105, 116] } ∧ shapeOf 7 = { data := #[120, 117] } ∧ gateOf 7 = 1 ∧ needA 7 = 0 ∧ needB 7 = 0 := by decide +kernel
set_option maxRecDepth 100000 in
set_option maxHeartbeats 1000000 in
theorem rget7 (w : World) : Calls Tryd.prog 15 #[.int .i64 7] w fun e w' =>
    e = .returned (.tuple #[.agg #[.string (nameOf 7), .string (shapeOf 7), .int .i64 (gateOf 7), .int .u32 (needA 7), .int .u32 (needB 7)], .bool true]) ∧ Below w.heap.size w w' := by
  go_enter Tryd.func15, Tryd.ntmps15
  go_wp2
  have c := fun j => World.cell?_alloc_new w #[Value.string { data := #[119, 97, 105, 116] }, .string { data := #[120, 117] }, .int .i64 1, .int .u32 0, .int .u32 0] 36 j
  refine bodyPost_ret (results_rget rfl rfl (c 0) (c 1) (c 2) (c 3) (c 4)) rfl ⟨?_, (Below.refl _ _).alloc (Nat.le_refl _) _⟩
  obtain ⟨h0, h1, h2, h3, h4⟩ := row7
  rw [h0, h1, h2, h3, h4]; rfl
theorem row8 : nameOf 8 = { data := #[108, 105, 110, 107] } ∧ shapeOf 8 = { data := #[83, 84] } ∧ gateOf 8 = 1 ∧ needA 8 = 0 ∧ needB 8 = 0 := by decide +kernel
set_option maxRecDepth 100000 in
set_option maxHeartbeats 1000000 in
theorem rget8 (w : World) : Calls Tryd.prog 15 #[.int .i64 8] w fun e w' =>
    e = .returned (.tuple #[.agg #[.string (nameOf 8), .string (shapeOf 8), .int .i64 (gateOf 8), .int .u32 (needA 8), .int .u32 (needB 8)], .bool true]) ∧ Below w.heap.size w w' := by
  go_enter Tryd.func15, Tryd.ntmps15
  go_wp2
  have c := fun j => World.cell?_alloc_new w #[Value.string { data := #[108, 105, 110, 107] }, .string { data := #[83, 84] }, .int .i64 1, .int .u32 0, .int .u32 0] 36 j
  refine bodyPost_ret (results_rget rfl rfl (c 0) (c 1) (c 2) (c 3) (c 4)) rfl ⟨?_, (Below.refl _ _).alloc (Nat.le_refl _) _⟩
  obtain ⟨h0, h1, h2, h3, h4⟩ := row8
  rw [h0, h1, h2, h3, h4]; rfl
theorem row9 : nameOf 9 = { data := #[117, 110, 108, 105, 110, 107] } ∧ shapeOf 9 = { data := #[83] } ∧ gateOf 9 = 1 ∧ needA 9 = 0 ∧ needB 9 = 0 := by decide +kernel
set_option maxRecDepth 100000 in
set_option maxHeartbeats 1000000 in
theorem rget9 (w : World) : Calls Tryd.prog 15 #[.int .i64 9] w fun e w' =>
    e = .returned (.tuple #[.agg #[.string (nameOf 9), .string (shapeOf 9), .int .i64 (gateOf 9), .int .u32 (needA 9), .int .u32 (needB 9)], .bool true]) ∧ Below w.heap.size w w' := by
  go_enter Tryd.func15, Tryd.ntmps15
  go_wp2
  have c := fun j => World.cell?_alloc_new w #[Value.string { data := #[117, 110, 108, 105, 110, 107] }, .string { data := #[83] }, .int .i64 1, .int .u32 0, .int .u32 0] 36 j
  refine bodyPost_ret (results_rget rfl rfl (c 0) (c 1) (c 2) (c 3) (c 4)) rfl ⟨?_, (Below.refl _ _).alloc (Nat.le_refl _) _⟩
  obtain ⟨h0, h1, h2, h3, h4⟩ := row9
  rw [h0, h1, h2, h3, h4]; rfl
theorem row10 : nameOf 10 = { data := #[99, 104, 100, 105, 114] } ∧ shapeOf 10 = { data := #[83] } ∧ gateOf 10 = 1 ∧ needA 10 = 0 ∧ needB 10 = 0 := by decide +kernel
set_option maxRecDepth 100000 in
set_option maxHeartbeats 1000000 in
theorem rget10 (w : World) : Calls Tryd.prog 15 #[.int .i64 10] w fun e w' =>
    e = .returned (.tuple #[.agg #[.string (nameOf 10), .string (shapeOf 10), .int .i64 (gateOf 10), .int .u32 (needA 10), .int .u32 (needB 10)], .bool true]) ∧ Below w.heap.size w w' := by
  go_enter Tryd.func15, Tryd.ntmps15
  go_wp2
  have c := fun j => World.cell?_alloc_new w #[Value.string { data := #[99, 104, 100, 105, 114] }, .string { data := #[83] }, .int .i64 1, .int .u32 0, .int .u32 0] 36 j
  refine bodyPost_ret (results_rget rfl rfl (c 0) (c 1) (c 2) (c 3) (c 4)) rfl ⟨?_, (Below.refl _ _).alloc (Nat.le_refl _) _⟩
  obtain ⟨h0, h1, h2, h3, h4⟩ := row10
  rw [h0, h1, h2, h3, h4]; rfl
theorem row11 : nameOf 11 = { data := #[102, 99, 104, 100, 105, 114] } ∧ shapeOf 11 = { data := #[102] } ∧ gateOf 11 = 1 ∧ needA 11 = 256 ∧ needB 11 = 0 := by decide +kernel
set_option maxRecDepth 100000 in
set_option maxHeartbeats 1000000 in
theorem rget11 (w : World) : Calls Tryd.prog 15 #[.int .i64 11] w fun e w' =>
    e = .returned (.tuple #[.agg #[.string (nameOf 11), .string (shapeOf 11), .int .i64 (gateOf 11), .int .u32 (needA 11), .int .u32 (needB 11)], .bool true]) ∧ Below w.heap.size w w' := by
  go_enter Tryd.func15, Tryd.ntmps15
  go_wp2
  have c := fun j => World.cell?_alloc_new w #[Value.string { data := #[102, 99, 104, 100, 105, 114] }, .string { data := #[102] }, .int .i64 1, .int .u32 256, .int .u32 0] 36 j
  refine bodyPost_ret (results_rget rfl rfl (c 0) (c 1) (c 2) (c 3) (c 4)) rfl ⟨?_, (Below.refl _ _).alloc (Nat.le_refl _) _⟩
  obtain ⟨h0, h1, h2, h3, h4⟩ := row11
  rw [h0, h1, h2, h3, h4]; rfl
theorem row12 : nameOf 12 = { data := #[109, 107, 100, 105, 114] } ∧ shapeOf 12 = { data := #[83] } ∧ gateOf 12 = 1 ∧ needA 12 = 0 ∧ needB 12 = 0 := by decide +kernel
set_option maxRecDepth 100000 in
set_option maxHeartbeats 1000000 in
theorem rget12 (w : World) : Calls Tryd.prog 15 #[.int .i64 12] w fun e w' =>
    e = .returned (.tuple #[.agg #[.string (nameOf 12), .string (shapeOf 12), .int .i64 (gateOf 12), .int .u32 (needA 12), .int .u32 (needB 12)], .bool true]) ∧ Below w.heap.size w w' := by
  go_enter Tryd.func15, Tryd.ntmps15
  go_wp2
  have c := fun j => World.cell?_alloc_new w #[Value.string { data := #[109, 107, 100, 105, 114] }, .string { data := #[83] }, .int .i64 1, .int .u32 0, .int .u32 0] 36 j
  refine bodyPost_ret (results_rget rfl rfl (c 0) (c 1) (c 2) (c 3) (c 4)) rfl ⟨?_, (Below.refl _ _).alloc (Nat.le_refl _) _⟩
  obtain ⟨h0, h1, h2, h3, h4⟩ := row12
  rw [h0, h1, h2, h3, h4]; rfl
theorem row13 : nameOf 13 = { data := #[114, 109, 100, 105, 114] } ∧ shapeOf 13 = { data := #[83] } ∧ gateOf 13 = 1 ∧ needA 13 = 0 ∧ needB 13 = 0 := by decide +kernel
set_option maxRecDepth 100000 in
set_option maxHeartbeats 1000000 in
theorem rget13 (w : World) : Calls Tryd.prog 15 #[.int .i64 13] w fun e w' =>
    e = .returned (.tuple #[.agg #[.string (nameOf 13), .string (shapeOf 13), .int .i64 (gateOf 13), .int .u32 (needA 13), .int .u32 (needB 13)], .bool true]) ∧ Below w.heap.size w w' := by
  go_enter Tryd.func15, Tryd.ntmps15
  go_wp2
  have c := fun j => World.cell?_alloc_new w #[Value.string { data := #[114, 109, 100, 105, 114] }, .string { data := #[83] }, .int .i64 1, .int .u32 0, .int .u32 0] 36 j
  refine bodyPost_ret (results_rget rfl rfl (c 0) (c 1) (c 2) (c 3) (c 4)) rfl ⟨?_, (Below.refl _ _).alloc (Nat.le_refl _) _⟩
  obtain ⟨h0, h1, h2, h3, h4⟩ := row13
  rw [h0, h1, h2, h3, h4]; rfl
theorem row14 : nameOf 14 = { data := #[103, 101, 116, 112, 105, 100] } ∧ shapeOf 14 = { data := #[] } ∧ gateOf 14 = 0 ∧ needA 14 = 0 ∧ needB 14 = 0 := by decide +kernel
set_option maxRecDepth 100000 in
set_option maxHeartbeats 1000000 in
theorem rget14 (w : World) : Calls Tryd.prog 15 #[.int .i64 14] w fun e w' =>
    e = .returned (.tuple #[.agg #[.string (nameOf 14), .string (shapeOf 14), .int .i64 (gateOf 14), .int .u32 (needA 14), .int .u32 (needB 14)], .bool true]) ∧ Below w.heap.size w w' := by
  go_enter Tryd.func15, Tryd.ntmps15
  go_wp2
  have c := fun j => World.cell?_alloc_new w #[Value.string { data := #[103, 101, 116, 112, 105, 100] }, .string { data := #[] }, .int .i64 0, .int .u32 0, .int .u32 0] 36 j
  refine bodyPost_ret (results_rget rfl rfl (c 0) (c 1) (c 2) (c 3) (c 4)) rfl ⟨?_, (Below.refl _ _).alloc (Nat.le_refl _) _⟩
  obtain ⟨h0, h1, h2, h3, h4⟩ := row14
  rw [h0, h1, h2, h3, h4]; rfl
theorem row15 : nameOf 15 = { data := #[103, 101, 116, 112, 112, 105, 100] } ∧ shapeOf 15 = { data := #[] } ∧ gateOf 15 = 0 ∧ needA 15 = 0 ∧ needB 15 = 0 := by decide +kernel
set_option maxRecDepth 100000 in
set_option maxHeartbeats 1000000 in
theorem rget15 (w : World) : Calls Tryd.prog 15 #[.int .i64 15] w fun e w' =>
    e = .returned (.tuple #[.agg #[.string (nameOf 15), .string (shapeOf 15), .int .i64 (gateOf 15), .int .u32 (needA 15), .int .u32 (needB 15)], .bool true]) ∧ Below w.heap.size w w' := by
  go_enter Tryd.func15, Tryd.ntmps15
  go_wp2
  have c := fun j => World.cell?_alloc_new w #[Value.string { data := #[103, 101, 116, 112, 112, 105, 100] }, .string { data := #[] }, .int .i64 0, .int .u32 0, .int .u32 0] 36 j
  refine bodyPost_ret (results_rget rfl rfl (c 0) (c 1) (c 2) (c 3) (c 4)) rfl ⟨?_, (Below.refl _ _).alloc (Nat.le_refl _) _⟩
  obtain ⟨h0, h1, h2, h3, h4⟩ := row15
  rw [h0, h1, h2, h3, h4]; rfl
theorem row16 : nameOf 16 = { data := #[107, 105, 108, 108] } ∧ shapeOf 16 = { data := #[120, 115] } ∧ gateOf 16 = 1 ∧ needA 16 = 0 ∧ needB 16 = 0 := by decide +kernel
set_option maxRecDepth 100000 in
set_option maxHeartbeats 1000000 in
theorem rget16 (w : World) : Calls Tryd.prog 15 #[.int .i64 16] w fun e w' =>
    e = .returned (.tuple #[.agg #[.string (nameOf 16), .string (shapeOf 16), .int .i64 (gateOf 16), .int .u32 (needA 16), .int .u32 (needB 16)], .bool true]) ∧ Below w.heap.size w w' := by
  go_enter Tryd.func15, Tryd.ntmps15
  go_wp2
  have c := fun j => World.cell?_alloc_new w #[Value.string { data := #[107, 105, 108, 108] }, .string { data := #[120, 115] }, .int .i64 1, .int .u32 0, .int .u32 0] 36 j
  refine bodyPost_ret (results_rget rfl rfl (c 0) (c 1) (c 2) (c 3) (c 4)) rfl ⟨?_, (Below.refl _ _).alloc (Nat.le_refl _) _⟩
  obtain ⟨h0, h1, h2, h3, h4⟩ := row16
  rw [h0, h1, h2, h3, h4]; rfl
end Go.Proofs.YtmjlfknkembhnaaDoor
