/- The reference's table of calls is the program's, part 2. Conditions: none. -/
import Derived.Test.YtmjlfknkembhnaaDoorGet
namespace Go.Proofs.YtmjlfknkembhnaaDoor
open Go Go.RowKit
theorem row33 : nameOf 33 = { data := #[111, 112, 101, 110, 97, 116] } ∧ shapeOf 33 = { data := #[100, 103, 83] } ∧ gateOf 33 = 2 ∧ needA 33 = 0 ∧ needB 33 = 0 := by decide +kernel
set_option maxRecDepth 100000 in
set_option maxHeartbeats 1000000 in
theorem rget33 (w : World) : Calls Tryd.prog 15 #[.int .i64 33] w fun e w' =>
    e = .returned (.tuple #[.agg #[.string (nameOf 33), .string (shapeOf 33), .int .i64 (gateOf 33), .int .u32 (needA 33), .int .u32 (needB 33)], .bool true]) ∧ Below w.heap.size w w' := by
  go_enter Tryd.func15, Tryd.ntmps15
  go_wp2
  have c := fun j => World.cell?_alloc_new w #[Value.string { data := #[111, 112, 101, 110, 97, 116] }, .string { data := #[100, 103, 83] }, .int .i64 2, .int .u32 0, .int .u32 0] 36 j
  refine bodyPost_ret (results_rget rfl rfl (c 0) (c 1) (c 2) (c 3) (c 4)) rfl ⟨?_, (Below.refl _ _).alloc (Nat.le_refl _) _⟩
  obtain ⟨h0, h1, h2, h3, h4⟩ := row33
  rw [h0, h1, h2, h3, h4]; rfl
theorem row34 : nameOf 34 = { data := #[109, 107, 100, 105, 114, 97, 116] } ∧ shapeOf 34 = { data := #[100, 83] } ∧ gateOf 34 = 2 ∧ needA 34 = 16512 ∧ needB 34 = 0 := by decide +kernel
set_option maxRecDepth 100000 in
set_option maxHeartbeats 1000000 in
theorem rget34 (w : World) : Calls Tryd.prog 15 #[.int .i64 34] w fun e w' =>
    e = .returned (.tuple #[.agg #[.string (nameOf 34), .string (shapeOf 34), .int .i64 (gateOf 34), .int .u32 (needA 34), .int .u32 (needB 34)], .bool true]) ∧ Below w.heap.size w w' := by
  go_enter Tryd.func15, Tryd.ntmps15
  go_wp2
  have c := fun j => World.cell?_alloc_new w #[Value.string { data := #[109, 107, 100, 105, 114, 97, 116] }, .string { data := #[100, 83] }, .int .i64 2, .int .u32 16512, .int .u32 0] 36 j
  refine bodyPost_ret (results_rget rfl rfl (c 0) (c 1) (c 2) (c 3) (c 4)) rfl ⟨?_, (Below.refl _ _).alloc (Nat.le_refl _) _⟩
  obtain ⟨h0, h1, h2, h3, h4⟩ := row34
  rw [h0, h1, h2, h3, h4]; rfl
theorem row35 : nameOf 35 = { data := #[117, 110, 108, 105, 110, 107, 97, 116] } ∧ shapeOf 35 = { data := #[100, 117, 83] } ∧ gateOf 35 = 2 ∧ needA 35 = 524416 ∧ needB 35 = 0 := by decide +kernel
set_option maxRecDepth 100000 in
set_option maxHeartbeats 1000000 in
theorem rget35 (w : World) : Calls Tryd.prog 15 #[.int .i64 35] w fun e w' =>
    e = .returned (.tuple #[.agg #[.string (nameOf 35), .string (shapeOf 35), .int .i64 (gateOf 35), .int .u32 (needA 35), .int .u32 (needB 35)], .bool true]) ∧ Below w.heap.size w w' := by
  go_enter Tryd.func15, Tryd.ntmps15
  go_wp2
  have c := fun j => World.cell?_alloc_new w #[Value.string { data := #[117, 110, 108, 105, 110, 107, 97, 116] }, .string { data := #[100, 117, 83] }, .int .i64 2, .int .u32 524416, .int .u32 0] 36 j
  refine bodyPost_ret (results_rget rfl rfl (c 0) (c 1) (c 2) (c 3) (c 4)) rfl ⟨?_, (Below.refl _ _).alloc (Nat.le_refl _) _⟩
  obtain ⟨h0, h1, h2, h3, h4⟩ := row35
  rw [h0, h1, h2, h3, h4]; rfl
theorem row36 : nameOf 36 = { data := #[114, 101, 110, 97, 109, 101, 97, 116] } ∧ shapeOf 36 = { data := #[100, 100, 83, 84] } ∧ gateOf 36 = 2 ∧ needA 36 = 32896 ∧ needB 36 = 65664 := by decide +kernel
set_option maxRecDepth 100000 in
set_option maxHeartbeats 1000000 in
theorem rget36 (w : World) : Calls Tryd.prog 15 #[.int .i64 36] w fun e w' =>
    e = .returned (.tuple #[.agg #[.string (nameOf 36), .string (shapeOf 36), .int .i64 (gateOf 36), .int .u32 (needA 36), .int .u32 (needB 36)], .bool true]) ∧ Below w.heap.size w w' := by
  go_enter Tryd.func15, Tryd.ntmps15
  go_wp2
  have c := fun j => World.cell?_alloc_new w #[Value.string { data := #[114, 101, 110, 97, 109, 101, 97, 116] }, .string { data := #[100, 100, 83, 84] }, .int .i64 2, .int .u32 32896, .int .u32 65664] 36 j
  refine bodyPost_ret (results_rget rfl rfl (c 0) (c 1) (c 2) (c 3) (c 4)) rfl ⟨?_, (Below.refl _ _).alloc (Nat.le_refl _) _⟩
  obtain ⟨h0, h1, h2, h3, h4⟩ := row36
  rw [h0, h1, h2, h3, h4]; rfl
theorem row37 : nameOf 37 = { data := #[108, 105, 110, 107, 97, 116] } ∧ shapeOf 37 = { data := #[100, 100, 117, 83, 84] } ∧ gateOf 37 = 2 ∧ needA 37 = 4224 ∧ needB 37 = 8320 := by decide +kernel
set_option maxRecDepth 100000 in
set_option maxHeartbeats 1000000 in
theorem rget37 (w : World) : Calls Tryd.prog 15 #[.int .i64 37] w fun e w' =>
    e = .returned (.tuple #[.agg #[.string (nameOf 37), .string (shapeOf 37), .int .i64 (gateOf 37), .int .u32 (needA 37), .int .u32 (needB 37)], .bool true]) ∧ Below w.heap.size w w' := by
  go_enter Tryd.func15, Tryd.ntmps15
  go_wp2
  have c := fun j => World.cell?_alloc_new w #[Value.string { data := #[108, 105, 110, 107, 97, 116] }, .string { data := #[100, 100, 117, 83, 84] }, .int .i64 2, .int .u32 4224, .int .u32 8320] 36 j
  refine bodyPost_ret (results_rget rfl rfl (c 0) (c 1) (c 2) (c 3) (c 4)) rfl ⟨?_, (Below.refl _ _).alloc (Nat.le_refl _) _⟩
  obtain ⟨h0, h1, h2, h3, h4⟩ := row37
  rw [h0, h1, h2, h3, h4]; rfl
theorem row38 : nameOf 38 = { data := #[115, 121, 109, 108, 105, 110, 107, 97, 116] } ∧ shapeOf 38 = { data := #[100, 89, 84] } ∧ gateOf 38 = 2 ∧ needA 38 = 131200 ∧ needB 38 = 0 := by decide +kernel
set_option maxRecDepth 100000 in
set_option maxHeartbeats 1000000 in
theorem rget38 (w : World) : Calls Tryd.prog 15 #[.int .i64 38] w fun e w' =>
    e = .returned (.tuple #[.agg #[.string (nameOf 38), .string (shapeOf 38), .int .i64 (gateOf 38), .int .u32 (needA 38), .int .u32 (needB 38)], .bool true]) ∧ Below w.heap.size w w' := by
  go_enter Tryd.func15, Tryd.ntmps15
  go_wp2
  have c := fun j => World.cell?_alloc_new w #[Value.string { data := #[115, 121, 109, 108, 105, 110, 107, 97, 116] }, .string { data := #[100, 89, 84] }, .int .i64 2, .int .u32 131200, .int .u32 0] 36 j
  refine bodyPost_ret (results_rget rfl rfl (c 0) (c 1) (c 2) (c 3) (c 4)) rfl ⟨?_, (Below.refl _ _).alloc (Nat.le_refl _) _⟩
  obtain ⟨h0, h1, h2, h3, h4⟩ := row38
  rw [h0, h1, h2, h3, h4]; rfl
theorem row39 : nameOf 39 = { data := #[114, 101, 97, 100, 108, 105, 110, 107, 97, 116] } ∧ shapeOf 39 = { data := #[100, 83] } ∧ gateOf 39 = 2 ∧ needA 39 = 262272 ∧ needB 39 = 0 := by decide +kernel
set_option maxRecDepth 100000 in
set_option maxHeartbeats 1000000 in
theorem rget39 (w : World) : Calls Tryd.prog 15 #[.int .i64 39] w fun e w' =>
    e = .returned (.tuple #[.agg #[.string (nameOf 39), .string (shapeOf 39), .int .i64 (gateOf 39), .int .u32 (needA 39), .int .u32 (needB 39)], .bool true]) ∧ Below w.heap.size w w' := by
  go_enter Tryd.func15, Tryd.ntmps15
  go_wp2
  have c := fun j => World.cell?_alloc_new w #[Value.string { data := #[114, 101, 97, 100, 108, 105, 110, 107, 97, 116] }, .string { data := #[100, 83] }, .int .i64 2, .int .u32 262272, .int .u32 0] 36 j
  refine bodyPost_ret (results_rget rfl rfl (c 0) (c 1) (c 2) (c 3) (c 4)) rfl ⟨?_, (Below.refl _ _).alloc (Nat.le_refl _) _⟩
  obtain ⟨h0, h1, h2, h3, h4⟩ := row39
  rw [h0, h1, h2, h3, h4]; rfl
theorem row40 : nameOf 40 = { data := #[102, 115, 116, 97, 116, 97, 116] } ∧ shapeOf 40 = { data := #[100, 117, 83] } ∧ gateOf 40 = 2 ∧ needA 40 = 1152 ∧ needB 40 = 0 := by decide +kernel
set_option maxRecDepth 100000 in
set_option maxHeartbeats 1000000 in
theorem rget40 (w : World) : Calls Tryd.prog 15 #[.int .i64 40] w fun e w' =>
    e = .returned (.tuple #[.agg #[.string (nameOf 40), .string (shapeOf 40), .int .i64 (gateOf 40), .int .u32 (needA 40), .int .u32 (needB 40)], .bool true]) ∧ Below w.heap.size w w' := by
  go_enter Tryd.func15, Tryd.ntmps15
  go_wp2
  have c := fun j => World.cell?_alloc_new w #[Value.string { data := #[102, 115, 116, 97, 116, 97, 116] }, .string { data := #[100, 117, 83] }, .int .i64 2, .int .u32 1152, .int .u32 0] 36 j
  refine bodyPost_ret (results_rget rfl rfl (c 0) (c 1) (c 2) (c 3) (c 4)) rfl ⟨?_, (Below.refl _ _).alloc (Nat.le_refl _) _⟩
  obtain ⟨h0, h1, h2, h3, h4⟩ := row40
  rw [h0, h1, h2, h3, h4]; rfl
theorem row41 : nameOf 41 = { data := #[115, 111, 99, 107, 101, 116] } ∧ shapeOf 41 = { data := #[107] } ∧ gateOf 41 = 0 ∧ needA 41 = 0 ∧ needB 41 = 0 := by decide +kernel
set_option maxRecDepth 100000 in
set_option maxHeartbeats 1000000 in
theorem rget41 (w : World) : Calls Tryd.prog 15 #[.int .i64 41] w fun e w' =>
    e = .returned (.tuple #[.agg #[.string (nameOf 41), .string (shapeOf 41), .int .i64 (gateOf 41), .int .u32 (needA 41), .int .u32 (needB 41)], .bool true]) ∧ Below w.heap.size w w' := by
  go_enter Tryd.func15, Tryd.ntmps15
  go_wp2
  have c := fun j => World.cell?_alloc_new w #[Value.string { data := #[115, 111, 99, 107, 101, 116] }, .string { data := #[107] }, .int .i64 0, .int .u32 0, .int .u32 0] 36 j
  refine bodyPost_ret (results_rget rfl rfl (c 0) (c 1) (c 2) (c 3) (c 4)) rfl ⟨?_, (Below.refl _ _).alloc (Nat.le_refl _) _⟩
  obtain ⟨h0, h1, h2, h3, h4⟩ := row41
  rw [h0, h1, h2, h3, h4]; rfl
theorem row42 : nameOf 42 = { data := #[115, 111, 99, 107, 101, 116, 112, 97, 105, 114] } ∧ shapeOf 42 = { data := #[107] } ∧ gateOf 42 = 0 ∧ needA 42 = 0 ∧ needB 42 = 0 := by decide +kernel
set_option maxRecDepth 100000 in
set_option maxHeartbeats 1000000 in
theorem rget42 (w : World) : Calls Tryd.prog 15 #[.int .i64 42] w fun e w' =>
    e = .returned (.tuple #[.agg #[.string (nameOf 42), .string (shapeOf 42), .int .i64 (gateOf 42), .int .u32 (needA 42), .int .u32 (needB 42)], .bool true]) ∧ Below w.heap.size w w' := by
  go_enter Tryd.func15, Tryd.ntmps15
  go_wp2
  have c := fun j => World.cell?_alloc_new w #[Value.string { data := #[115, 111, 99, 107, 101, 116, 112, 97, 105, 114] }, .string { data := #[107] }, .int .i64 0, .int .u32 0, .int .u32 0] 36 j
  refine bodyPost_ret (results_rget rfl rfl (c 0) (c 1) (c 2) (c 3) (c 4)) rfl ⟨?_, (Below.refl _ _).alloc (Nat.le_refl _) _⟩
  obtain ⟨h0, h1, h2, h3, h4⟩ := row42
  rw [h0, h1, h2, h3, h4]; rfl
theorem row43 : nameOf 43 = { data := #[98, 105, 110, 100] } ∧ shapeOf 43 = { data := #[102, 83] } ∧ gateOf 43 = 1 ∧ needA 43 = 2097152 ∧ needB 43 = 0 := by decide +kernel
set_option maxRecDepth 100000 in
set_option maxHeartbeats 1000000 in
theorem rget43 (w : World) : Calls Tryd.prog 15 #[.int .i64 43] w fun e w' =>
    e = .returned (.tuple #[.agg #[.string (nameOf 43), .string (shapeOf 43), .int .i64 (gateOf 43), .int .u32 (needA 43), .int .u32 (needB 43)], .bool true]) ∧ Below w.heap.size w w' := by
  go_enter Tryd.func15, Tryd.ntmps15
  go_wp2
  have c := fun j => World.cell?_alloc_new w #[Value.string { data := #[98, 105, 110, 100] }, .string { data := #[102, 83] }, .int .i64 1, .int .u32 2097152, .int .u32 0] 36 j
  refine bodyPost_ret (results_rget rfl rfl (c 0) (c 1) (c 2) (c 3) (c 4)) rfl ⟨?_, (Below.refl _ _).alloc (Nat.le_refl _) _⟩
  obtain ⟨h0, h1, h2, h3, h4⟩ := row43
  rw [h0, h1, h2, h3, h4]; rfl
theorem row44 : nameOf 44 = { data := #[98, 105, 110, 100, 97, 116] } ∧ shapeOf 44 = { data := #[100, 102, 83] } ∧ gateOf 44 = 2 ∧ needA 44 = 33554560 ∧ needB 44 = 2097152 := by decide +kernel
set_option maxRecDepth 100000 in
set_option maxHeartbeats 1000000 in
theorem rget44 (w : World) : Calls Tryd.prog 15 #[.int .i64 44] w fun e w' =>
    e = .returned (.tuple #[.agg #[.string (nameOf 44), .string (shapeOf 44), .int .i64 (gateOf 44), .int .u32 (needA 44), .int .u32 (needB 44)], .bool true]) ∧ Below w.heap.size w w' := by
  go_enter Tryd.func15, Tryd.ntmps15
  go_wp2
  have c := fun j => World.cell?_alloc_new w #[Value.string { data := #[98, 105, 110, 100, 97, 116] }, .string { data := #[100, 102, 83] }, .int .i64 2, .int .u32 33554560, .int .u32 2097152] 36 j
  refine bodyPost_ret (results_rget rfl rfl (c 0) (c 1) (c 2) (c 3) (c 4)) rfl ⟨?_, (Below.refl _ _).alloc (Nat.le_refl _) _⟩
  obtain ⟨h0, h1, h2, h3, h4⟩ := row44
  rw [h0, h1, h2, h3, h4]; rfl
theorem row45 : nameOf 45 = { data := #[108, 105, 115, 116, 101, 110] } ∧ shapeOf 45 = { data := #[102, 98] } ∧ gateOf 45 = 0 ∧ needA 45 = 8388608 ∧ needB 45 = 0 := by decide +kernel
set_option maxRecDepth 100000 in
set_option maxHeartbeats 1000000 in
theorem rget45 (w : World) : Calls Tryd.prog 15 #[.int .i64 45] w fun e w' =>
    e = .returned (.tuple #[.agg #[.string (nameOf 45), .string (shapeOf 45), .int .i64 (gateOf 45), .int .u32 (needA 45), .int .u32 (needB 45)], .bool true]) ∧ Below w.heap.size w w' := by
  go_enter Tryd.func15, Tryd.ntmps15
  go_wp2
  have c := fun j => World.cell?_alloc_new w #[Value.string { data := #[108, 105, 115, 116, 101, 110] }, .string { data := #[102, 98] }, .int .i64 0, .int .u32 8388608, .int .u32 0] 36 j
  refine bodyPost_ret (results_rget rfl rfl (c 0) (c 1) (c 2) (c 3) (c 4)) rfl ⟨?_, (Below.refl _ _).alloc (Nat.le_refl _) _⟩
  obtain ⟨h0, h1, h2, h3, h4⟩ := row45
  rw [h0, h1, h2, h3, h4]; rfl
theorem row46 : nameOf 46 = { data := #[99, 111, 110, 110, 101, 99, 116] } ∧ shapeOf 46 = { data := #[102, 83] } ∧ gateOf 46 = 1 ∧ needA 46 = 4194304 ∧ needB 46 = 0 := by decide +kernel
set_option maxRecDepth 100000 in
set_option maxHeartbeats 1000000 in
theorem rget46 (w : World) : Calls Tryd.prog 15 #[.int .i64 46] w fun e w' =>
    e = .returned (.tuple #[.agg #[.string (nameOf 46), .string (shapeOf 46), .int .i64 (gateOf 46), .int .u32 (needA 46), .int .u32 (needB 46)], .bool true]) ∧ Below w.heap.size w w' := by
  go_enter Tryd.func15, Tryd.ntmps15
  go_wp2
  have c := fun j => World.cell?_alloc_new w #[Value.string { data := #[99, 111, 110, 110, 101, 99, 116] }, .string { data := #[102, 83] }, .int .i64 1, .int .u32 4194304, .int .u32 0] 36 j
  refine bodyPost_ret (results_rget rfl rfl (c 0) (c 1) (c 2) (c 3) (c 4)) rfl ⟨?_, (Below.refl _ _).alloc (Nat.le_refl _) _⟩
  obtain ⟨h0, h1, h2, h3, h4⟩ := row46
  rw [h0, h1, h2, h3, h4]; rfl
theorem row47 : nameOf 47 = { data := #[99, 111, 110, 110, 101, 99, 116, 97, 116] } ∧ shapeOf 47 = { data := #[100, 102, 83] } ∧ gateOf 47 = 2 ∧ needA 47 = 67108992 ∧ needB 47 = 4194304 := by decide +kernel
set_option maxRecDepth 100000 in
set_option maxHeartbeats 1000000 in
theorem rget47 (w : World) : Calls Tryd.prog 15 #[.int .i64 47] w fun e w' =>
    e = .returned (.tuple #[.agg #[.string (nameOf 47), .string (shapeOf 47), .int .i64 (gateOf 47), .int .u32 (needA 47), .int .u32 (needB 47)], .bool true]) ∧ Below w.heap.size w w' := by
  go_enter Tryd.func15, Tryd.ntmps15
  go_wp2
  have c := fun j => World.cell?_alloc_new w #[Value.string { data := #[99, 111, 110, 110, 101, 99, 116, 97, 116] }, .string { data := #[100, 102, 83] }, .int .i64 2, .int .u32 67108992, .int .u32 4194304] 36 j
  refine bodyPost_ret (results_rget rfl rfl (c 0) (c 1) (c 2) (c 3) (c 4)) rfl ⟨?_, (Below.refl _ _).alloc (Nat.le_refl _) _⟩
  obtain ⟨h0, h1, h2, h3, h4⟩ := row47
  rw [h0, h1, h2, h3, h4]; rfl
theorem row48 : nameOf 48 = { data := #[97, 99, 99, 101, 112, 116] } ∧ shapeOf 48 = { data := #[102, 107] } ∧ gateOf 48 = 0 ∧ needA 48 = 1048576 ∧ needB 48 = 0 := by decide +kernel
set_option maxRecDepth 100000 in
set_option maxHeartbeats 1000000 in
theorem rget48 (w : World) : Calls Tryd.prog 15 #[.int .i64 48] w fun e w' =>
    e = .returned (.tuple #[.agg #[.string (nameOf 48), .string (shapeOf 48), .int .i64 (gateOf 48), .int .u32 (needA 48), .int .u32 (needB 48)], .bool true]) ∧ Below w.heap.size w w' := by
  go_enter Tryd.func15, Tryd.ntmps15
  go_wp2
  have c := fun j => World.cell?_alloc_new w #[Value.string { data := #[97, 99, 99, 101, 112, 116] }, .string { data := #[102, 107] }, .int .i64 0, .int .u32 1048576, .int .u32 0] 36 j
  refine bodyPost_ret (results_rget rfl rfl (c 0) (c 1) (c 2) (c 3) (c 4)) rfl ⟨?_, (Below.refl _ _).alloc (Nat.le_refl _) _⟩
  obtain ⟨h0, h1, h2, h3, h4⟩ := row48
  rw [h0, h1, h2, h3, h4]; rfl
end Go.Proofs.YtmjlfknkembhnaaDoor
