/- The reference's table of calls is the program's, part 1. Conditions: none. -/
import Derived.Test.YtmjlfknkembhnaaDoorGet
namespace Go.Proofs.YtmjlfknkembhnaaDoor
open Go Go.RowKit
theorem row17 : nameOf 17 = { data := #[100, 117, 112] } ∧ shapeOf 17 = { data := #[102] } ∧ gateOf 17 = 0 ∧ needA 17 = 0 ∧ needB 17 = 0 := by decide +kernel
set_option maxRecDepth 100000 in
set_option maxHeartbeats 1000000 in
theorem rget17 (w : World) : Calls Tryd.prog 15 #[.int .i64 17] w fun e w' =>
    e = .returned (.tuple #[.agg #[.string (nameOf 17), .string (shapeOf 17), .int .i64 (gateOf 17), .int .u32 (needA 17), .int .u32 (needB 17)], .bool true]) ∧ Below w.heap.size w w' := by
  go_enter Tryd.func15, Tryd.ntmps15
  go_wp2
  have c := fun j => World.cell?_alloc_new w #[Value.string { data := #[100, 117, 112] }, .string { data := #[102] }, .int .i64 0, .int .u32 0, .int .u32 0] 36 j
  refine bodyPost_ret (results_rget rfl rfl (c 0) (c 1) (c 2) (c 3) (c 4)) rfl ⟨?_, (Below.refl _ _).alloc (Nat.le_refl _) _⟩
  obtain ⟨h0, h1, h2, h3, h4⟩ := row17
  rw [h0, h1, h2, h3, h4]; rfl
theorem row18 : nameOf 18 = { data := #[100, 117, 112, 50] } ∧ shapeOf 18 = { data := #[102, 120] } ∧ gateOf 18 = 0 ∧ needA 18 = 0 ∧ needB 18 = 0 := by decide +kernel
set_option maxRecDepth 100000 in
set_option maxHeartbeats 1000000 in
theorem rget18 (w : World) : Calls Tryd.prog 15 #[.int .i64 18] w fun e w' =>
    e = .returned (.tuple #[.agg #[.string (nameOf 18), .string (shapeOf 18), .int .i64 (gateOf 18), .int .u32 (needA 18), .int .u32 (needB 18)], .bool true]) ∧ Below w.heap.size w w' := by
  go_enter Tryd.func15, Tryd.ntmps15
  go_wp2
  have c := fun j => World.cell?_alloc_new w #[Value.string { data := #[100, 117, 112, 50] }, .string { data := #[102, 120] }, .int .i64 0, .int .u32 0, .int .u32 0] 36 j
  refine bodyPost_ret (results_rget rfl rfl (c 0) (c 1) (c 2) (c 3) (c 4)) rfl ⟨?_, (Below.refl _ _).alloc (Nat.le_refl _) _⟩
  obtain ⟨h0, h1, h2, h3, h4⟩ := row18
  rw [h0, h1, h2, h3, h4]; rfl
theorem row19 : nameOf 19 = { data := #[112, 105, 112, 101] } ∧ shapeOf 19 = { data := #[107] } ∧ gateOf 19 = 0 ∧ needA 19 = 0 ∧ needB 19 = 0 := by decide +kernel
set_option maxRecDepth 100000 in
set_option maxHeartbeats 1000000 in
theorem rget19 (w : World) : Calls Tryd.prog 15 #[.int .i64 19] w fun e w' =>
    e = .returned (.tuple #[.agg #[.string (nameOf 19), .string (shapeOf 19), .int .i64 (gateOf 19), .int .u32 (needA 19), .int .u32 (needB 19)], .bool true]) ∧ Below w.heap.size w w' := by
  go_enter Tryd.func15, Tryd.ntmps15
  go_wp2
  have c := fun j => World.cell?_alloc_new w #[Value.string { data := #[112, 105, 112, 101] }, .string { data := #[107] }, .int .i64 0, .int .u32 0, .int .u32 0] 36 j
  refine bodyPost_ret (results_rget rfl rfl (c 0) (c 1) (c 2) (c 3) (c 4)) rfl ⟨?_, (Below.refl _ _).alloc (Nat.le_refl _) _⟩
  obtain ⟨h0, h1, h2, h3, h4⟩ := row19
  rw [h0, h1, h2, h3, h4]; rfl
theorem row20 : nameOf 20 = { data := #[102, 99, 110, 116, 108] } ∧ shapeOf 20 = { data := #[102, 120, 120] } ∧ gateOf 20 = 0 ∧ needA 20 = 0 ∧ needB 20 = 0 := by decide +kernel
set_option maxRecDepth 100000 in
set_option maxHeartbeats 1000000 in
theorem rget20 (w : World) : Calls Tryd.prog 15 #[.int .i64 20] w fun e w' =>
    e = .returned (.tuple #[.agg #[.string (nameOf 20), .string (shapeOf 20), .int .i64 (gateOf 20), .int .u32 (needA 20), .int .u32 (needB 20)], .bool true]) ∧ Below w.heap.size w w' := by
  go_enter Tryd.func15, Tryd.ntmps15
  go_wp2
  have c := fun j => World.cell?_alloc_new w #[Value.string { data := #[102, 99, 110, 116, 108] }, .string { data := #[102, 120, 120] }, .int .i64 0, .int .u32 0, .int .u32 0] 36 j
  refine bodyPost_ret (results_rget rfl rfl (c 0) (c 1) (c 2) (c 3) (c 4)) rfl ⟨?_, (Below.refl _ _).alloc (Nat.le_refl _) _⟩
  obtain ⟨h0, h1, h2, h3, h4⟩ := row20
  rw [h0, h1, h2, h3, h4]; rfl
theorem row21 : nameOf 21 = { data := #[105, 111, 99, 116, 108] } ∧ shapeOf 21 = { data := #[102, 120, 120] } ∧ gateOf 21 = 0 ∧ needA 21 = 268435456 ∧ needB 21 = 0 := by decide +kernel
set_option maxRecDepth 100000 in
set_option maxHeartbeats 1000000 in
theorem rget21 (w : World) : Calls Tryd.prog 15 #[.int .i64 21] w fun e w' =>
    e = .returned (.tuple #[.agg #[.string (nameOf 21), .string (shapeOf 21), .int .i64 (gateOf 21), .int .u32 (needA 21), .int .u32 (needB 21)], .bool true]) ∧ Below w.heap.size w w' := by
  go_enter Tryd.func15, Tryd.ntmps15
  go_wp2
  have c := fun j => World.cell?_alloc_new w #[Value.string { data := #[105, 111, 99, 116, 108] }, .string { data := #[102, 120, 120] }, .int .i64 0, .int .u32 268435456, .int .u32 0] 36 j
  refine bodyPost_ret (results_rget rfl rfl (c 0) (c 1) (c 2) (c 3) (c 4)) rfl ⟨?_, (Below.refl _ _).alloc (Nat.le_refl _) _⟩
  obtain ⟨h0, h1, h2, h3, h4⟩ := row21
  rw [h0, h1, h2, h3, h4]; rfl
theorem row22 : nameOf 22 = { data := #[115, 121, 109, 108, 105, 110, 107] } ∧ shapeOf 22 = { data := #[89, 84] } ∧ gateOf 22 = 1 ∧ needA 22 = 0 ∧ needB 22 = 0 := by decide +kernel
set_option maxRecDepth 100000 in
set_option maxHeartbeats 1000000 in
theorem rget22 (w : World) : Calls Tryd.prog 15 #[.int .i64 22] w fun e w' =>
    e = .returned (.tuple #[.agg #[.string (nameOf 22), .string (shapeOf 22), .int .i64 (gateOf 22), .int .u32 (needA 22), .int .u32 (needB 22)], .bool true]) ∧ Below w.heap.size w w' := by
  go_enter Tryd.func15, Tryd.ntmps15
  go_wp2
  have c := fun j => World.cell?_alloc_new w #[Value.string { data := #[115, 121, 109, 108, 105, 110, 107] }, .string { data := #[89, 84] }, .int .i64 1, .int .u32 0, .int .u32 0] 36 j
  refine bodyPost_ret (results_rget rfl rfl (c 0) (c 1) (c 2) (c 3) (c 4)) rfl ⟨?_, (Below.refl _ _).alloc (Nat.le_refl _) _⟩
  obtain ⟨h0, h1, h2, h3, h4⟩ := row22
  rw [h0, h1, h2, h3, h4]; rfl
theorem row23 : nameOf 23 = { data := #[114, 101, 97, 100, 108, 105, 110, 107] } ∧ shapeOf 23 = { data := #[83] } ∧ gateOf 23 = 1 ∧ needA 23 = 0 ∧ needB 23 = 0 := by decide +kernel
set_option maxRecDepth 100000 in
set_option maxHeartbeats 1000000 in
theorem rget23 (w : World) : Calls Tryd.prog 15 #[.int .i64 23] w fun e w' =>
    e = .returned (.tuple #[.agg #[.string (nameOf 23), .string (shapeOf 23), .int .i64 (gateOf 23), .int .u32 (needA 23), .int .u32 (needB 23)], .bool true]) ∧ Below w.heap.size w w' := by
  go_enter Tryd.func15, Tryd.ntmps15
  go_wp2
  have c := fun j => World.cell?_alloc_new w #[Value.string { data := #[114, 101, 97, 100, 108, 105, 110, 107] }, .string { data := #[83] }, .int .i64 1, .int .u32 0, .int .u32 0] 36 j
  refine bodyPost_ret (results_rget rfl rfl (c 0) (c 1) (c 2) (c 3) (c 4)) rfl ⟨?_, (Below.refl _ _).alloc (Nat.le_refl _) _⟩
  obtain ⟨h0, h1, h2, h3, h4⟩ := row23
  rw [h0, h1, h2, h3, h4]; rfl
theorem row24 : nameOf 24 = { data := #[114, 101, 110, 97, 109, 101] } ∧ shapeOf 24 = { data := #[83, 84] } ∧ gateOf 24 = 1 ∧ needA 24 = 0 ∧ needB 24 = 0 := by decide +kernel
set_option maxRecDepth 100000 in
set_option maxHeartbeats 1000000 in
theorem rget24 (w : World) : Calls Tryd.prog 15 #[.int .i64 24] w fun e w' =>
    e = .returned (.tuple #[.agg #[.string (nameOf 24), .string (shapeOf 24), .int .i64 (gateOf 24), .int .u32 (needA 24), .int .u32 (needB 24)], .bool true]) ∧ Below w.heap.size w w' := by
  go_enter Tryd.func15, Tryd.ntmps15
  go_wp2
  have c := fun j => World.cell?_alloc_new w #[Value.string { data := #[114, 101, 110, 97, 109, 101] }, .string { data := #[83, 84] }, .int .i64 1, .int .u32 0, .int .u32 0] 36 j
  refine bodyPost_ret (results_rget rfl rfl (c 0) (c 1) (c 2) (c 3) (c 4)) rfl ⟨?_, (Below.refl _ _).alloc (Nat.le_refl _) _⟩
  obtain ⟨h0, h1, h2, h3, h4⟩ := row24
  rw [h0, h1, h2, h3, h4]; rfl
theorem row25 : nameOf 25 = { data := #[108, 115, 101, 101, 107] } ∧ shapeOf 25 = { data := #[102, 105, 119] } ∧ gateOf 25 = 0 ∧ needA 25 = 0 ∧ needB 25 = 0 := by decide +kernel
set_option maxRecDepth 100000 in
set_option maxHeartbeats 1000000 in
theorem rget25 (w : World) : Calls Tryd.prog 15 #[.int .i64 25] w fun e w' =>
    e = .returned (.tuple #[.agg #[.string (nameOf 25), .string (shapeOf 25), .int .i64 (gateOf 25), .int .u32 (needA 25), .int .u32 (needB 25)], .bool true]) ∧ Below w.heap.size w w' := by
  go_enter Tryd.func15, Tryd.ntmps15
  go_wp2
  have c := fun j => World.cell?_alloc_new w #[Value.string { data := #[108, 115, 101, 101, 107] }, .string { data := #[102, 105, 119] }, .int .i64 0, .int .u32 0, .int .u32 0] 36 j
  refine bodyPost_ret (results_rget rfl rfl (c 0) (c 1) (c 2) (c 3) (c 4)) rfl ⟨?_, (Below.refl _ _).alloc (Nat.le_refl _) _⟩
  obtain ⟨h0, h1, h2, h3, h4⟩ := row25
  rw [h0, h1, h2, h3, h4]; rfl
theorem row26 : nameOf 26 = { data := #[102, 116, 114, 117, 110, 99, 97, 116, 101] } ∧ shapeOf 26 = { data := #[102, 111] } ∧ gateOf 26 = 0 ∧ needA 26 = 64 ∧ needB 26 = 0 := by decide +kernel
set_option maxRecDepth 100000 in
set_option maxHeartbeats 1000000 in
theorem rget26 (w : World) : Calls Tryd.prog 15 #[.int .i64 26] w fun e w' =>
    e = .returned (.tuple #[.agg #[.string (nameOf 26), .string (shapeOf 26), .int .i64 (gateOf 26), .int .u32 (needA 26), .int .u32 (needB 26)], .bool true]) ∧ Below w.heap.size w w' := by
  go_enter Tryd.func15, Tryd.ntmps15
  go_wp2
  have c := fun j => World.cell?_alloc_new w #[Value.string { data := #[102, 116, 114, 117, 110, 99, 97, 116, 101] }, .string { data := #[102, 111] }, .int .i64 0, .int .u32 64, .int .u32 0] 36 j
  refine bodyPost_ret (results_rget rfl rfl (c 0) (c 1) (c 2) (c 3) (c 4)) rfl ⟨?_, (Below.refl _ _).alloc (Nat.le_refl _) _⟩
  obtain ⟨h0, h1, h2, h3, h4⟩ := row26
  rw [h0, h1, h2, h3, h4]; rfl
theorem row27 : nameOf 27 = { data := #[102, 115, 116, 97, 116] } ∧ shapeOf 27 = { data := #[102] } ∧ gateOf 27 = 0 ∧ needA 27 = 1024 ∧ needB 27 = 0 := by decide +kernel
set_option maxRecDepth 100000 in
set_option maxHeartbeats 1000000 in
theorem rget27 (w : World) : Calls Tryd.prog 15 #[.int .i64 27] w fun e w' =>
    e = .returned (.tuple #[.agg #[.string (nameOf 27), .string (shapeOf 27), .int .i64 (gateOf 27), .int .u32 (needA 27), .int .u32 (needB 27)], .bool true]) ∧ Below w.heap.size w w' := by
  go_enter Tryd.func15, Tryd.ntmps15
  go_wp2
  have c := fun j => World.cell?_alloc_new w #[Value.string { data := #[102, 115, 116, 97, 116] }, .string { data := #[102] }, .int .i64 0, .int .u32 1024, .int .u32 0] 36 j
  refine bodyPost_ret (results_rget rfl rfl (c 0) (c 1) (c 2) (c 3) (c 4)) rfl ⟨?_, (Below.refl _ _).alloc (Nat.le_refl _) _⟩
  obtain ⟨h0, h1, h2, h3, h4⟩ := row27
  rw [h0, h1, h2, h3, h4]; rfl
theorem row28 : nameOf 28 = { data := #[115, 116, 97, 116] } ∧ shapeOf 28 = { data := #[117, 83] } ∧ gateOf 28 = 1 ∧ needA 28 = 0 ∧ needB 28 = 0 := by decide +kernel
set_option maxRecDepth 100000 in
set_option maxHeartbeats 1000000 in
theorem rget28 (w : World) : Calls Tryd.prog 15 #[.int .i64 28] w fun e w' =>
    e = .returned (.tuple #[.agg #[.string (nameOf 28), .string (shapeOf 28), .int .i64 (gateOf 28), .int .u32 (needA 28), .int .u32 (needB 28)], .bool true]) ∧ Below w.heap.size w w' := by
  go_enter Tryd.func15, Tryd.ntmps15
  go_wp2
  have c := fun j => World.cell?_alloc_new w #[Value.string { data := #[115, 116, 97, 116] }, .string { data := #[117, 83] }, .int .i64 1, .int .u32 0, .int .u32 0] 36 j
  refine bodyPost_ret (results_rget rfl rfl (c 0) (c 1) (c 2) (c 3) (c 4)) rfl ⟨?_, (Below.refl _ _).alloc (Nat.le_refl _) _⟩
  obtain ⟨h0, h1, h2, h3, h4⟩ := row28
  rw [h0, h1, h2, h3, h4]; rfl
theorem row29 : nameOf 29 = { data := #[102, 115, 121, 110, 99] } ∧ shapeOf 29 = { data := #[102] } ∧ gateOf 29 = 0 ∧ needA 29 = 32 ∧ needB 29 = 0 := by decide +kernel
set_option maxRecDepth 100000 in
set_option maxHeartbeats 1000000 in
theorem rget29 (w : World) : Calls Tryd.prog 15 #[.int .i64 29] w fun e w' =>
    e = .returned (.tuple #[.agg #[.string (nameOf 29), .string (shapeOf 29), .int .i64 (gateOf 29), .int .u32 (needA 29), .int .u32 (needB 29)], .bool true]) ∧ Below w.heap.size w w' := by
  go_enter Tryd.func15, Tryd.ntmps15
  go_wp2
  have c := fun j => World.cell?_alloc_new w #[Value.string { data := #[102, 115, 121, 110, 99] }, .string { data := #[102] }, .int .i64 0, .int .u32 32, .int .u32 0] 36 j
  refine bodyPost_ret (results_rget rfl rfl (c 0) (c 1) (c 2) (c 3) (c 4)) rfl ⟨?_, (Below.refl _ _).alloc (Nat.le_refl _) _⟩
  obtain ⟨h0, h1, h2, h3, h4⟩ := row29
  rw [h0, h1, h2, h3, h4]; rfl
theorem row30 : nameOf 30 = { data := #[112, 114, 101, 97, 100] } ∧ shapeOf 30 = { data := #[102, 110, 111] } ∧ gateOf 30 = 0 ∧ needA 30 = 5 ∧ needB 30 = 0 := by decide +kernel
set_option maxRecDepth 100000 in
set_option maxHeartbeats 1000000 in
theorem rget30 (w : World) : Calls Tryd.prog 15 #[.int .i64 30] w fun e w' =>
    e = .returned (.tuple #[.agg #[.string (nameOf 30), .string (shapeOf 30), .int .i64 (gateOf 30), .int .u32 (needA 30), .int .u32 (needB 30)], .bool true]) ∧ Below w.heap.size w w' := by
  go_enter Tryd.func15, Tryd.ntmps15
  go_wp2
  have c := fun j => World.cell?_alloc_new w #[Value.string { data := #[112, 114, 101, 97, 100] }, .string { data := #[102, 110, 111] }, .int .i64 0, .int .u32 5, .int .u32 0] 36 j
  refine bodyPost_ret (results_rget rfl rfl (c 0) (c 1) (c 2) (c 3) (c 4)) rfl ⟨?_, (Below.refl _ _).alloc (Nat.le_refl _) _⟩
  obtain ⟨h0, h1, h2, h3, h4⟩ := row30
  rw [h0, h1, h2, h3, h4]; rfl
theorem row31 : nameOf 31 = { data := #[112, 119, 114, 105, 116, 101] } ∧ shapeOf 31 = { data := #[102, 111, 66] } ∧ gateOf 31 = 0 ∧ needA 31 = 6 ∧ needB 31 = 0 := by decide +kernel
set_option maxRecDepth 100000 in
set_option maxHeartbeats 1000000 in
theorem rget31 (w : World) : Calls Tryd.prog 15 #[.int .i64 31] w fun e w' =>
    e = .returned (.tuple #[.agg #[.string (nameOf 31), .string (shapeOf 31), .int .i64 (gateOf 31), .int .u32 (needA 31), .int .u32 (needB 31)], .bool true]) ∧ Below w.heap.size w w' := by
  go_enter Tryd.func15, Tryd.ntmps15
  go_wp2
  have c := fun j => World.cell?_alloc_new w #[Value.string { data := #[112, 119, 114, 105, 116, 101] }, .string { data := #[102, 111, 66] }, .int .i64 0, .int .u32 6, .int .u32 0] 36 j
  refine bodyPost_ret (results_rget rfl rfl (c 0) (c 1) (c 2) (c 3) (c 4)) rfl ⟨?_, (Below.refl _ _).alloc (Nat.le_refl _) _⟩
  obtain ⟨h0, h1, h2, h3, h4⟩ := row31
  rw [h0, h1, h2, h3, h4]; rfl
theorem row32 : nameOf 32 = { data := #[103, 101, 116, 100, 101, 110, 116, 115] } ∧ shapeOf 32 = { data := #[102, 99] } ∧ gateOf 32 = 0 ∧ needA 32 = 2048 ∧ needB 32 = 0 := by decide +kernel
set_option maxRecDepth 100000 in
set_option maxHeartbeats 1000000 in
theorem rget32 (w : World) : Calls Tryd.prog 15 #[.int .i64 32] w fun e w' =>
    e = .returned (.tuple #[.agg #[.string (nameOf 32), .string (shapeOf 32), .int .i64 (gateOf 32), .int .u32 (needA 32), .int .u32 (needB 32)], .bool true]) ∧ Below w.heap.size w w' := by
  go_enter Tryd.func15, Tryd.ntmps15
  go_wp2
  have c := fun j => World.cell?_alloc_new w #[Value.string { data := #[103, 101, 116, 100, 101, 110, 116, 115] }, .string { data := #[102, 99] }, .int .i64 0, .int .u32 2048, .int .u32 0] 36 j
  refine bodyPost_ret (results_rget rfl rfl (c 0) (c 1) (c 2) (c 3) (c 4)) rfl ⟨?_, (Below.refl _ _).alloc (Nat.le_refl _) _⟩
  obtain ⟨h0, h1, h2, h3, h4⟩ := row32
  rw [h0, h1, h2, h3, h4]; rfl
end Go.Proofs.YtmjlfknkembhnaaDoor
