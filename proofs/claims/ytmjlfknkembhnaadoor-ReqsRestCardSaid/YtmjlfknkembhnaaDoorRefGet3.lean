/- The reference's table of calls is the program's, part 3. Conditions: none. -/
import Derived.Test.YtmjlfknkembhnaaDoorGet
namespace Go.Proofs.YtmjlfknkembhnaaDoor
open Go Go.RowKit
theorem row49 : nameOf 49 = { data := #[115, 104, 117, 116, 100, 111, 119, 110] } ∧ shapeOf 49 = { data := #[102, 104] } ∧ gateOf 49 = 0 ∧ needA 49 = 16777216 ∧ needB 49 = 0 := by decide +kernel
set_option maxRecDepth 100000 in
set_option maxHeartbeats 1000000 in
theorem rget49 (w : World) : Calls Tryd.prog 15 #[.int .i64 49] w fun e w' =>
    e = .returned (.tuple #[.agg #[.string (nameOf 49), .string (shapeOf 49), .int .i64 (gateOf 49), .int .u32 (needA 49), .int .u32 (needB 49)], .bool true]) ∧ Below w.heap.size w w' := by
  go_enter Tryd.func15, Tryd.ntmps15
  go_wp2
  have c := fun j => World.cell?_alloc_new w #[Value.string { data := #[115, 104, 117, 116, 100, 111, 119, 110] }, .string { data := #[102, 104] }, .int .i64 0, .int .u32 16777216, .int .u32 0] 36 j
  refine bodyPost_ret (results_rget rfl rfl (c 0) (c 1) (c 2) (c 3) (c 4)) rfl ⟨?_, (Below.refl _ _).alloc (Nat.le_refl _) _⟩
  obtain ⟨h0, h1, h2, h3, h4⟩ := row49
  rw [h0, h1, h2, h3, h4]; rfl
theorem row50 : nameOf 50 = { data := #[115, 101, 110, 100] } ∧ shapeOf 50 = { data := #[102, 66, 76] } ∧ gateOf 50 = 0 ∧ needA 50 = 2 ∧ needB 50 = 0 := by decide +kernel
set_option maxRecDepth 100000 in
set_option maxHeartbeats 1000000 in
theorem rget50 (w : World) : Calls Tryd.prog 15 #[.int .i64 50] w fun e w' =>
    e = .returned (.tuple #[.agg #[.string (nameOf 50), .string (shapeOf 50), .int .i64 (gateOf 50), .int .u32 (needA 50), .int .u32 (needB 50)], .bool true]) ∧ Below w.heap.size w w' := by
  go_enter Tryd.func15, Tryd.ntmps15
  go_wp2
  have c := fun j => World.cell?_alloc_new w #[Value.string { data := #[115, 101, 110, 100] }, .string { data := #[102, 66, 76] }, .int .i64 0, .int .u32 2, .int .u32 0] 36 j
  refine bodyPost_ret (results_rget rfl rfl (c 0) (c 1) (c 2) (c 3) (c 4)) rfl ⟨?_, (Below.refl _ _).alloc (Nat.le_refl _) _⟩
  obtain ⟨h0, h1, h2, h3, h4⟩ := row50
  rw [h0, h1, h2, h3, h4]; rfl
theorem row51 : nameOf 51 = { data := #[114, 101, 99, 118] } ∧ shapeOf 51 = { data := #[102, 110, 109] } ∧ gateOf 51 = 0 ∧ needA 51 = 1 ∧ needB 51 = 0 := by decide +kernel
set_option maxRecDepth 100000 in
set_option maxHeartbeats 1000000 in
theorem rget51 (w : World) : Calls Tryd.prog 15 #[.int .i64 51] w fun e w' =>
    e = .returned (.tuple #[.agg #[.string (nameOf 51), .string (shapeOf 51), .int .i64 (gateOf 51), .int .u32 (needA 51), .int .u32 (needB 51)], .bool true]) ∧ Below w.heap.size w w' := by
  go_enter Tryd.func15, Tryd.ntmps15
  go_wp2
  have c := fun j => World.cell?_alloc_new w #[Value.string { data := #[114, 101, 99, 118] }, .string { data := #[102, 110, 109] }, .int .i64 0, .int .u32 1, .int .u32 0] 36 j
  refine bodyPost_ret (results_rget rfl rfl (c 0) (c 1) (c 2) (c 3) (c 4)) rfl ⟨?_, (Below.refl _ _).alloc (Nat.le_refl _) _⟩
  obtain ⟨h0, h1, h2, h3, h4⟩ := row51
  rw [h0, h1, h2, h3, h4]; rfl
theorem row52 : nameOf 52 = { data := #[112, 111, 108, 108] } ∧ shapeOf 52 = { data := #[117, 80] } ∧ gateOf 52 = 0 ∧ needA 52 = 0 ∧ needB 52 = 0 := by decide +kernel
set_option maxRecDepth 100000 in
set_option maxHeartbeats 1000000 in
theorem rget52 (w : World) : Calls Tryd.prog 15 #[.int .i64 52] w fun e w' =>
    e = .returned (.tuple #[.agg #[.string (nameOf 52), .string (shapeOf 52), .int .i64 (gateOf 52), .int .u32 (needA 52), .int .u32 (needB 52)], .bool true]) ∧ Below w.heap.size w w' := by
  go_enter Tryd.func15, Tryd.ntmps15
  go_wp2
  have c := fun j => World.cell?_alloc_new w #[Value.string { data := #[112, 111, 108, 108] }, .string { data := #[117, 80] }, .int .i64 0, .int .u32 0, .int .u32 0] 36 j
  refine bodyPost_ret (results_rget rfl rfl (c 0) (c 1) (c 2) (c 3) (c 4)) rfl ⟨?_, (Below.refl _ _).alloc (Nat.le_refl _) _⟩
  obtain ⟨h0, h1, h2, h3, h4⟩ := row52
  rw [h0, h1, h2, h3, h4]; rfl
theorem row53 : nameOf 53 = { data := #[112, 100, 102, 111, 114, 107] } ∧ shapeOf 53 = { data := #[] } ∧ gateOf 53 = 0 ∧ needA 53 = 0 ∧ needB 53 = 0 := by decide +kernel
set_option maxRecDepth 100000 in
set_option maxHeartbeats 1000000 in
theorem rget53 (w : World) : Calls Tryd.prog 15 #[.int .i64 53] w fun e w' =>
    e = .returned (.tuple #[.agg #[.string (nameOf 53), .string (shapeOf 53), .int .i64 (gateOf 53), .int .u32 (needA 53), .int .u32 (needB 53)], .bool true]) ∧ Below w.heap.size w w' := by
  go_enter Tryd.func15, Tryd.ntmps15
  go_wp2
  have c := fun j => World.cell?_alloc_new w #[Value.string { data := #[112, 100, 102, 111, 114, 107] }, .string { data := #[] }, .int .i64 0, .int .u32 0, .int .u32 0] 36 j
  refine bodyPost_ret (results_rget rfl rfl (c 0) (c 1) (c 2) (c 3) (c 4)) rfl ⟨?_, (Below.refl _ _).alloc (Nat.le_refl _) _⟩
  obtain ⟨h0, h1, h2, h3, h4⟩ := row53
  rw [h0, h1, h2, h3, h4]; rfl
theorem row54 : nameOf 54 = { data := #[112, 100, 103, 101, 116, 112, 105, 100] } ∧ shapeOf 54 = { data := #[102] } ∧ gateOf 54 = 0 ∧ needA 54 = 536870912 ∧ needB 54 = 0 := by decide +kernel
set_option maxRecDepth 100000 in
set_option maxHeartbeats 1000000 in
theorem rget54 (w : World) : Calls Tryd.prog 15 #[.int .i64 54] w fun e w' =>
    e = .returned (.tuple #[.agg #[.string (nameOf 54), .string (shapeOf 54), .int .i64 (gateOf 54), .int .u32 (needA 54), .int .u32 (needB 54)], .bool true]) ∧ Below w.heap.size w w' := by
  go_enter Tryd.func15, Tryd.ntmps15
  go_wp2
  have c := fun j => World.cell?_alloc_new w #[Value.string { data := #[112, 100, 103, 101, 116, 112, 105, 100] }, .string { data := #[102] }, .int .i64 0, .int .u32 536870912, .int .u32 0] 36 j
  refine bodyPost_ret (results_rget rfl rfl (c 0) (c 1) (c 2) (c 3) (c 4)) rfl ⟨?_, (Below.refl _ _).alloc (Nat.le_refl _) _⟩
  obtain ⟨h0, h1, h2, h3, h4⟩ := row54
  rw [h0, h1, h2, h3, h4]; rfl
theorem row55 : nameOf 55 = { data := #[112, 100, 107, 105, 108, 108] } ∧ shapeOf 55 = { data := #[102, 115] } ∧ gateOf 55 = 0 ∧ needA 55 = 2147483648 ∧ needB 55 = 0 := by decide +kernel
set_option maxRecDepth 100000 in
set_option maxHeartbeats 1000000 in
theorem rget55 (w : World) : Calls Tryd.prog 15 #[.int .i64 55] w fun e w' =>
    e = .returned (.tuple #[.agg #[.string (nameOf 55), .string (shapeOf 55), .int .i64 (gateOf 55), .int .u32 (needA 55), .int .u32 (needB 55)], .bool true]) ∧ Below w.heap.size w w' := by
  go_enter Tryd.func15, Tryd.ntmps15
  go_wp2
  have c := fun j => World.cell?_alloc_new w #[Value.string { data := #[112, 100, 107, 105, 108, 108] }, .string { data := #[102, 115] }, .int .i64 0, .int .u32 2147483648, .int .u32 0] 36 j
  refine bodyPost_ret (results_rget rfl rfl (c 0) (c 1) (c 2) (c 3) (c 4)) rfl ⟨?_, (Below.refl _ _).alloc (Nat.le_refl _) _⟩
  obtain ⟨h0, h1, h2, h3, h4⟩ := row55
  rw [h0, h1, h2, h3, h4]; rfl
theorem row56 : nameOf 56 = { data := #[112, 100, 119, 97, 105, 116] } ∧ shapeOf 56 = { data := #[102, 117] } ∧ gateOf 56 = 0 ∧ needA 56 = 1073741824 ∧ needB 56 = 0 := by decide +kernel
set_option maxRecDepth 100000 in
set_option maxHeartbeats 1000000 in
theorem rget56 (w : World) : Calls Tryd.prog 15 #[.int .i64 56] w fun e w' =>
    e = .returned (.tuple #[.agg #[.string (nameOf 56), .string (shapeOf 56), .int .i64 (gateOf 56), .int .u32 (needA 56), .int .u32 (needB 56)], .bool true]) ∧ Below w.heap.size w w' := by
  go_enter Tryd.func15, Tryd.ntmps15
  go_wp2
  have c := fun j => World.cell?_alloc_new w #[Value.string { data := #[112, 100, 119, 97, 105, 116] }, .string { data := #[102, 117] }, .int .i64 0, .int .u32 1073741824, .int .u32 0] 36 j
  refine bodyPost_ret (results_rget rfl rfl (c 0) (c 1) (c 2) (c 3) (c 4)) rfl ⟨?_, (Below.refl _ _).alloc (Nat.le_refl _) _⟩
  obtain ⟨h0, h1, h2, h3, h4⟩ := row56
  rw [h0, h1, h2, h3, h4]; rfl
theorem row57 : nameOf 57 = { data := #[99, 97, 112, 95, 101, 110, 116, 101, 114] } ∧ shapeOf 57 = { data := #[] } ∧ gateOf 57 = 0 ∧ needA 57 = 0 ∧ needB 57 = 0 := by decide +kernel
set_option maxRecDepth 100000 in
set_option maxHeartbeats 1000000 in
theorem rget57 (w : World) : Calls Tryd.prog 15 #[.int .i64 57] w fun e w' =>
    e = .returned (.tuple #[.agg #[.string (nameOf 57), .string (shapeOf 57), .int .i64 (gateOf 57), .int .u32 (needA 57), .int .u32 (needB 57)], .bool true]) ∧ Below w.heap.size w w' := by
  go_enter Tryd.func15, Tryd.ntmps15
  go_wp2
  have c := fun j => World.cell?_alloc_new w #[Value.string { data := #[99, 97, 112, 95, 101, 110, 116, 101, 114] }, .string { data := #[] }, .int .i64 0, .int .u32 0, .int .u32 0] 36 j
  refine bodyPost_ret (results_rget rfl rfl (c 0) (c 1) (c 2) (c 3) (c 4)) rfl ⟨?_, (Below.refl _ _).alloc (Nat.le_refl _) _⟩
  obtain ⟨h0, h1, h2, h3, h4⟩ := row57
  rw [h0, h1, h2, h3, h4]; rfl
theorem row58 : nameOf 58 = { data := #[99, 97, 112, 95, 103, 101, 116, 109, 111, 100, 101] } ∧ shapeOf 58 = { data := #[] } ∧ gateOf 58 = 0 ∧ needA 58 = 0 ∧ needB 58 = 0 := by decide +kernel
set_option maxRecDepth 100000 in
set_option maxHeartbeats 1000000 in
theorem rget58 (w : World) : Calls Tryd.prog 15 #[.int .i64 58] w fun e w' =>
    e = .returned (.tuple #[.agg #[.string (nameOf 58), .string (shapeOf 58), .int .i64 (gateOf 58), .int .u32 (needA 58), .int .u32 (needB 58)], .bool true]) ∧ Below w.heap.size w w' := by
  go_enter Tryd.func15, Tryd.ntmps15
  go_wp2
  have c := fun j => World.cell?_alloc_new w #[Value.string { data := #[99, 97, 112, 95, 103, 101, 116, 109, 111, 100, 101] }, .string { data := #[] }, .int .i64 0, .int .u32 0, .int .u32 0] 36 j
  refine bodyPost_ret (results_rget rfl rfl (c 0) (c 1) (c 2) (c 3) (c 4)) rfl ⟨?_, (Below.refl _ _).alloc (Nat.le_refl _) _⟩
  obtain ⟨h0, h1, h2, h3, h4⟩ := row58
  rw [h0, h1, h2, h3, h4]; rfl
theorem row59 : nameOf 59 = { data := #[99, 97, 112, 95, 114, 105, 103, 104, 116, 115, 95, 108, 105, 109, 105, 116] } ∧ shapeOf 59 = { data := #[102, 82] } ∧ gateOf 59 = 0 ∧ needA 59 = 0 ∧ needB 59 = 0 := by decide +kernel
set_option maxRecDepth 100000 in
set_option maxHeartbeats 1000000 in
theorem rget59 (w : World) : Calls Tryd.prog 15 #[.int .i64 59] w fun e w' =>
    e = .returned (.tuple #[.agg #[.string (nameOf 59), .string (shapeOf 59), .int .i64 (gateOf 59), .int .u32 (needA 59), .int .u32 (needB 59)], .bool true]) ∧ Below w.heap.size w w' := by
  go_enter Tryd.func15, Tryd.ntmps15
  go_wp2
  have c := fun j => World.cell?_alloc_new w #[Value.string { data := #[99, 97, 112, 95, 114, 105, 103, 104, 116, 115, 95, 108, 105, 109, 105, 116] }, .string { data := #[102, 82] }, .int .i64 0, .int .u32 0, .int .u32 0] 36 j
  refine bodyPost_ret (results_rget rfl rfl (c 0) (c 1) (c 2) (c 3) (c 4)) rfl ⟨?_, (Below.refl _ _).alloc (Nat.le_refl _) _⟩
  obtain ⟨h0, h1, h2, h3, h4⟩ := row59
  rw [h0, h1, h2, h3, h4]; rfl
theorem row60 : nameOf 60 = { data := #[99, 97, 112, 95, 114, 105, 103, 104, 116, 115, 95, 103, 101, 116] } ∧ shapeOf 60 = { data := #[102] } ∧ gateOf 60 = 0 ∧ needA 60 = 0 ∧ needB 60 = 0 := by decide +kernel
set_option maxRecDepth 100000 in
set_option maxHeartbeats 1000000 in
theorem rget60 (w : World) : Calls Tryd.prog 15 #[.int .i64 60] w fun e w' =>
    e = .returned (.tuple #[.agg #[.string (nameOf 60), .string (shapeOf 60), .int .i64 (gateOf 60), .int .u32 (needA 60), .int .u32 (needB 60)], .bool true]) ∧ Below w.heap.size w w' := by
  go_enter Tryd.func15, Tryd.ntmps15
  go_wp2
  have c := fun j => World.cell?_alloc_new w #[Value.string { data := #[99, 97, 112, 95, 114, 105, 103, 104, 116, 115, 95, 103, 101, 116] }, .string { data := #[102] }, .int .i64 0, .int .u32 0, .int .u32 0] 36 j
  refine bodyPost_ret (results_rget rfl rfl (c 0) (c 1) (c 2) (c 3) (c 4)) rfl ⟨?_, (Below.refl _ _).alloc (Nat.le_refl _) _⟩
  obtain ⟨h0, h1, h2, h3, h4⟩ := row60
  rw [h0, h1, h2, h3, h4]; rfl
theorem row61 : nameOf 61 = { data := #[99, 97, 112, 95, 105, 111, 99, 116, 108, 115, 95, 108, 105, 109, 105, 116] } ∧ shapeOf 61 = { data := #[102, 73] } ∧ gateOf 61 = 0 ∧ needA 61 = 0 ∧ needB 61 = 0 := by decide +kernel
set_option maxRecDepth 100000 in
set_option maxHeartbeats 1000000 in
theorem rget61 (w : World) : Calls Tryd.prog 15 #[.int .i64 61] w fun e w' =>
    e = .returned (.tuple #[.agg #[.string (nameOf 61), .string (shapeOf 61), .int .i64 (gateOf 61), .int .u32 (needA 61), .int .u32 (needB 61)], .bool true]) ∧ Below w.heap.size w w' := by
  go_enter Tryd.func15, Tryd.ntmps15
  go_wp2
  have c := fun j => World.cell?_alloc_new w #[Value.string { data := #[99, 97, 112, 95, 105, 111, 99, 116, 108, 115, 95, 108, 105, 109, 105, 116] }, .string { data := #[102, 73] }, .int .i64 0, .int .u32 0, .int .u32 0] 36 j
  refine bodyPost_ret (results_rget rfl rfl (c 0) (c 1) (c 2) (c 3) (c 4)) rfl ⟨?_, (Below.refl _ _).alloc (Nat.le_refl _) _⟩
  obtain ⟨h0, h1, h2, h3, h4⟩ := row61
  rw [h0, h1, h2, h3, h4]; rfl
theorem row62 : nameOf 62 = { data := #[99, 97, 112, 95, 105, 111, 99, 116, 108, 115, 95, 103, 101, 116] } ∧ shapeOf 62 = { data := #[102] } ∧ gateOf 62 = 0 ∧ needA 62 = 0 ∧ needB 62 = 0 := by decide +kernel
set_option maxRecDepth 100000 in
set_option maxHeartbeats 1000000 in
theorem rget62 (w : World) : Calls Tryd.prog 15 #[.int .i64 62] w fun e w' =>
    e = .returned (.tuple #[.agg #[.string (nameOf 62), .string (shapeOf 62), .int .i64 (gateOf 62), .int .u32 (needA 62), .int .u32 (needB 62)], .bool true]) ∧ Below w.heap.size w w' := by
  go_enter Tryd.func15, Tryd.ntmps15
  go_wp2
  have c := fun j => World.cell?_alloc_new w #[Value.string { data := #[99, 97, 112, 95, 105, 111, 99, 116, 108, 115, 95, 103, 101, 116] }, .string { data := #[102] }, .int .i64 0, .int .u32 0, .int .u32 0] 36 j
  refine bodyPost_ret (results_rget rfl rfl (c 0) (c 1) (c 2) (c 3) (c 4)) rfl ⟨?_, (Below.refl _ _).alloc (Nat.le_refl _) _⟩
  obtain ⟨h0, h1, h2, h3, h4⟩ := row62
  rw [h0, h1, h2, h3, h4]; rfl
theorem row63 : nameOf 63 = { data := #[99, 97, 112, 95, 102, 99, 110, 116, 108, 115, 95, 108, 105, 109, 105, 116] } ∧ shapeOf 63 = { data := #[102, 120] } ∧ gateOf 63 = 0 ∧ needA 63 = 0 ∧ needB 63 = 0 := by decide +kernel
set_option maxRecDepth 100000 in
set_option maxHeartbeats 1000000 in
theorem rget63 (w : World) : Calls Tryd.prog 15 #[.int .i64 63] w fun e w' =>
    e = .returned (.tuple #[.agg #[.string (nameOf 63), .string (shapeOf 63), .int .i64 (gateOf 63), .int .u32 (needA 63), .int .u32 (needB 63)], .bool true]) ∧ Below w.heap.size w w' := by
  go_enter Tryd.func15, Tryd.ntmps15
  go_wp2
  have c := fun j => World.cell?_alloc_new w #[Value.string { data := #[99, 97, 112, 95, 102, 99, 110, 116, 108, 115, 95, 108, 105, 109, 105, 116] }, .string { data := #[102, 120] }, .int .i64 0, .int .u32 0, .int .u32 0] 36 j
  refine bodyPost_ret (results_rget rfl rfl (c 0) (c 1) (c 2) (c 3) (c 4)) rfl ⟨?_, (Below.refl _ _).alloc (Nat.le_refl _) _⟩
  obtain ⟨h0, h1, h2, h3, h4⟩ := row63
  rw [h0, h1, h2, h3, h4]; rfl
theorem row64 : nameOf 64 = { data := #[99, 97, 112, 95, 102, 99, 110, 116, 108, 115, 95, 103, 101, 116] } ∧ shapeOf 64 = { data := #[102] } ∧ gateOf 64 = 0 ∧ needA 64 = 0 ∧ needB 64 = 0 := by decide +kernel
set_option maxRecDepth 100000 in
set_option maxHeartbeats 1000000 in
theorem rget64 (w : World) : Calls Tryd.prog 15 #[.int .i64 64] w fun e w' =>
    e = .returned (.tuple #[.agg #[.string (nameOf 64), .string (shapeOf 64), .int .i64 (gateOf 64), .int .u32 (needA 64), .int .u32 (needB 64)], .bool true]) ∧ Below w.heap.size w w' := by
  go_enter Tryd.func15, Tryd.ntmps15
  go_wp2
  have c := fun j => World.cell?_alloc_new w #[Value.string { data := #[99, 97, 112, 95, 102, 99, 110, 116, 108, 115, 95, 103, 101, 116] }, .string { data := #[102] }, .int .i64 0, .int .u32 0, .int .u32 0] 36 j
  refine bodyPost_ret (results_rget rfl rfl (c 0) (c 1) (c 2) (c 3) (c 4)) rfl ⟨?_, (Below.refl _ _).alloc (Nat.le_refl _) _⟩
  obtain ⟨h0, h1, h2, h3, h4⟩ := row64
  rw [h0, h1, h2, h3, h4]; rfl
end Go.Proofs.YtmjlfknkembhnaaDoor
