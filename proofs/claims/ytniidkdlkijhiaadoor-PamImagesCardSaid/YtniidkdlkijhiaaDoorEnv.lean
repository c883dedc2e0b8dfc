/- The program, as the machine has it. -/
import Derived.Test.YtniidkdlkijhiaaDoorU0
import Derived.Test.YtniidkdlkijhiaaDoorProg
namespace Go.Proofs.YtniidkdlkijhiaaDoor
open Go.AM Go.UM
noncomputable def tt : TT := ttL
  [.tup,
   .func,
   .int .i64,
   .int .i64,
   .bool,
   .int .u8,
   .int .u8,
   .struct [(0, 2), (1, 3), (2, 4), (3, 6)],
   .struct [(0, 2), (1, 3), (2, 4), (3, 6)],
   .str,
   .str,
   .str,
   .int .u64,
   .struct [(0, 9), (1, 12)],
   .struct [(0, 9), (1, 12)],
   .ptr 112,
   .ptr 115,
   .ptr 124,
   .struct [(0, 17)],
   .struct [(0, 17)],
   .iface,
   .int .i32,
   .slice 3,
   .struct [(0, 3), (1, 3), (2, 3), (3, 9), (4, 22)],
   .struct [(0, 3), (1, 3), (2, 3), (3, 9), (4, 22)],
   .func,
   .slice 5,
   .int .i64,
   .tup,
   .func,
   .tup,
   .func,
   .func,
   .func,
   .func,
   .func,
   .func,
   .slice 89,
   .struct [(0, 3), (1, 3), (2, 37), (3, 22), (4, 22), (5, 37), (6, 22), (7, 22)],
   .struct [(0, 3), (1, 3), (2, 37), (3, 22), (4, 22), (5, 37), (6, 22), (7, 22)],
   .slice 24,
   .func,
   .tup,
   .func,
   .tup,
   .func,
   .func,
   .tup,
   .func,
   .tup,
   .func,
   .func,
   .func,
   .tup,
   .func,
   .tup,
   .func,
   .func,
   .func,
   .func,
   .func,
   .func,
   .func,
   .func,
   .func,
   .int .u64,
   .func,
   .func,
   .func,
   .arr 6 22,
   .arr 6 24,
   .func,
   .slice 22,
   .func,
   .slice 9,
   .func,
   .func,
   .func,
   .func,
   .func,
   .func,
   .func,
   .func,
   .tup,
   .func,
   .func,
   .func,
   .tup,
   .func,
   .arr 3 3,
   .func,
   .func,
   .func,
   .func,
   .arr 24 5,
   .int .u64,
   .func,
   .func,
   .tup,
   .func,
   .func,
   .func,
   .arr 20 95,
   .int .u32,
   .arr 65 5,
   .func,
   .func,
   .func,
   .arr 32 5,
   .arr 64 5,
   .func,
   .struct [(0, 17), (1, 17), (2, 17), (3, 9)],
   .struct [(0, 17), (1, 17), (2, 17), (3, 9)],
   .arr 0 16,
   .struct [(0, 113)],
   .struct [(0, 113)],
   .func,
   .int .u8,
   .int .u8,
   .func,
   .ptr 5,
   .int .i32,
   .int .i32,
   .struct [(0, 12), (1, 12), (2, 103), (3, 117), (4, 5), (5, 5), (6, 118), (7, 119), (8, 120), (9, 121), (10, 122)],
   .struct [(0, 12), (1, 12), (2, 103), (3, 117), (4, 5), (5, 5), (6, 118), (7, 119), (8, 120), (9, 121), (10, 122)],
   .other]
  [1, 1, 1, 1, 1, 1, 1, 4, 4, 1, 1, 1, 1, 2, 2, 1, 1, 1, 1, 1, 1, 1, 1, 5, 5, 1, 1, 1, 1, 1, 1, 1, 1, 1, 1, 1, 1, 1, 8, 8, 1, 1, 1, 1, 1, 1, 1, 1, 1, 1, 1, 1, 1, 1, 1, 1, 1, 1, 1, 1, 1, 1, 1, 1, 1, 1, 1, 1, 1, 6, 30, 1, 1, 1, 1, 1, 1, 1, 1, 1, 1, 1, 1, 1, 1, 1, 1, 1, 1, 3, 1, 1, 1, 1, 24, 1, 1, 1, 1, 1, 1, 1, 20, 1, 65, 1, 1, 1, 32, 64, 1, 4, 4, 0, 0, 0, 1, 1, 1, 1, 1, 1, 1, 11, 11, 1]
  [.tup [],
   .nilf,
   .int .i64 0,
   .int .i64 0,
   .bool false,
   .int .u8 0,
   .int .u8 0,
   .agg [.int .i64 0, .int .i64 0, .bool false, .int .u8 0],
   .agg [.int .i64 0, .int .i64 0, .bool false, .int .u8 0],
   .str [],
   .str [],
   .str [],
   .int .u64 0,
   .agg [.str [], .int .u64 0],
   .agg [.str [], .int .u64 0],
   .nilp,
   .nilp,
   .nilp,
   .agg [.nilp],
   .agg [.nilp],
   .nili,
   .int .i32 0,
   .nils,
   .agg [.int .i64 0, .int .i64 0, .int .i64 0, .str [], .nils],
   .agg [.int .i64 0, .int .i64 0, .int .i64 0, .str [], .nils],
   .nilf,
   .nils,
   .int .i64 0,
   .tup [.nils, .int .i64 0],
   .nilf,
   .tup [.nils, .int .i64 0],
   .nilf,
   .nilf,
   .nilf,
   .nilf,
   .nilf,
   .nilf,
   .nils,
   .agg [.int .i64 0, .int .i64 0, .nils, .nils, .nils, .nils, .nils, .nils],
   .agg [.int .i64 0, .int .i64 0, .nils, .nils, .nils, .nils, .nils, .nils],
   .nils,
   .nilf,
   .tup [.nils, .int .i64 0],
   .nilf,
   .tup [.nils, .int .i64 0],
   .nilf,
   .nilf,
   .tup [.bad, .int .i64 0],
   .nilf,
   .tup [.bad, .int .i64 0],
   .nilf,
   .nilf,
   .nilf,
   .tup [.bad, .nils, .int .i64 0],
   .nilf,
   .tup [.bad, .nils, .int .i64 0],
   .nilf,
   .nilf,
   .nilf,
   .nilf,
   .nilf,
   .nilf,
   .nilf,
   .nilf,
   .nilf,
   .int .u64 0,
   .nilf,
   .nilf,
   .nilf,
   .agg [.nils, .nils, .nils, .nils, .nils, .nils],
   .agg [.int .i64 0, .int .i64 0, .int .i64 0, .str [], .nils, .int .i64 0, .int .i64 0, .int .i64 0, .str [], .nils, .int .i64 0, .int .i64 0, .int .i64 0, .str [], .nils, .int .i64 0, .int .i64 0, .int .i64 0, .str [], .nils, .int .i64 0, .int .i64 0, .int .i64 0, .str [], .nils, .int .i64 0, .int .i64 0, .int .i64 0, .str [], .nils],
   .nilf,
   .nils,
   .nilf,
   .nils,
   .nilf,
   .nilf,
   .nilf,
   .nilf,
   .nilf,
   .nilf,
   .nilf,
   .nilf,
   .tup [.str [], .bool false],
   .nilf,
   .nilf,
   .nilf,
   .tup [.str [], .int .i64 0],
   .nilf,
   .agg [.int .i64 0, .int .i64 0, .int .i64 0],
   .nilf,
   .nilf,
   .nilf,
   .nilf,
   .agg [.int .u8 0, .int .u8 0, .int .u8 0, .int .u8 0, .int .u8 0, .int .u8 0, .int .u8 0, .int .u8 0, .int .u8 0, .int .u8 0, .int .u8 0, .int .u8 0, .int .u8 0, .int .u8 0, .int .u8 0, .int .u8 0, .int .u8 0, .int .u8 0, .int .u8 0, .int .u8 0, .int .u8 0, .int .u8 0, .int .u8 0, .int .u8 0],
   .int .u64 0,
   .nilf,
   .nilf,
   .tup [.nils, .str []],
   .nilf,
   .nilf,
   .nilf,
   .agg [.int .u64 0, .int .u64 0, .int .u64 0, .int .u64 0, .int .u64 0, .int .u64 0, .int .u64 0, .int .u64 0, .int .u64 0, .int .u64 0, .int .u64 0, .int .u64 0, .int .u64 0, .int .u64 0, .int .u64 0, .int .u64 0, .int .u64 0, .int .u64 0, .int .u64 0, .int .u64 0],
   .int .u32 0,
   .agg [.int .u8 0, .int .u8 0, .int .u8 0, .int .u8 0, .int .u8 0, .int .u8 0, .int .u8 0, .int .u8 0, .int .u8 0, .int .u8 0, .int .u8 0, .int .u8 0, .int .u8 0, .int .u8 0, .int .u8 0, .int .u8 0, .int .u8 0, .int .u8 0, .int .u8 0, .int .u8 0, .int .u8 0, .int .u8 0, .int .u8 0, .int .u8 0, .int .u8 0, .int .u8 0, .int .u8 0, .int .u8 0, .int .u8 0, .int .u8 0, .int .u8 0, .int .u8 0, .int .u8 0, .int .u8 0, .int .u8 0, .int .u8 0, .int .u8 0, .int .u8 0, .int .u8 0, .int .u8 0, .int .u8 0, .int .u8 0, .int .u8 0, .int .u8 0, .int .u8 0, .int .u8 0, .int .u8 0, .int .u8 0, .int .u8 0, .int .u8 0, .int .u8 0, .int .u8 0, .int .u8 0, .int .u8 0, .int .u8 0, .int .u8 0, .int .u8 0, .int .u8 0, .int .u8 0, .int .u8 0, .int .u8 0, .int .u8 0, .int .u8 0, .int .u8 0, .int .u8 0],
   .nilf,
   .nilf,
   .nilf,
   .agg [.int .u8 0, .int .u8 0, .int .u8 0, .int .u8 0, .int .u8 0, .int .u8 0, .int .u8 0, .int .u8 0, .int .u8 0, .int .u8 0, .int .u8 0, .int .u8 0, .int .u8 0, .int .u8 0, .int .u8 0, .int .u8 0, .int .u8 0, .int .u8 0, .int .u8 0, .int .u8 0, .int .u8 0, .int .u8 0, .int .u8 0, .int .u8 0, .int .u8 0, .int .u8 0, .int .u8 0, .int .u8 0, .int .u8 0, .int .u8 0, .int .u8 0, .int .u8 0],
   .agg [.int .u8 0, .int .u8 0, .int .u8 0, .int .u8 0, .int .u8 0, .int .u8 0, .int .u8 0, .int .u8 0, .int .u8 0, .int .u8 0, .int .u8 0, .int .u8 0, .int .u8 0, .int .u8 0, .int .u8 0, .int .u8 0, .int .u8 0, .int .u8 0, .int .u8 0, .int .u8 0, .int .u8 0, .int .u8 0, .int .u8 0, .int .u8 0, .int .u8 0, .int .u8 0, .int .u8 0, .int .u8 0, .int .u8 0, .int .u8 0, .int .u8 0, .int .u8 0, .int .u8 0, .int .u8 0, .int .u8 0, .int .u8 0, .int .u8 0, .int .u8 0, .int .u8 0, .int .u8 0, .int .u8 0, .int .u8 0, .int .u8 0, .int .u8 0, .int .u8 0, .int .u8 0, .int .u8 0, .int .u8 0, .int .u8 0, .int .u8 0, .int .u8 0, .int .u8 0, .int .u8 0, .int .u8 0, .int .u8 0, .int .u8 0, .int .u8 0, .int .u8 0, .int .u8 0, .int .u8 0, .int .u8 0, .int .u8 0, .int .u8 0, .int .u8 0],
   .nilf,
   .agg [.nilp, .nilp, .nilp, .str []],
   .agg [.nilp, .nilp, .nilp, .str []],
   .agg [],
   .agg [],
   .agg [],
   .nilf,
   .int .u8 0,
   .int .u8 0,
   .nilf,
   .nilp,
   .int .i32 0,
   .int .i32 0,
   .agg [.int .u64 0, .int .u64 0, .int .u32 0, .int .u8 0, .int .u8 0, .int .u8 0, .int .u8 0, .nilf, .nilp, .int .i32 0, .int .i32 0],
   .agg [.int .u64 0, .int .u64 0, .int .u32 0, .int .u8 0, .int .u8 0, .int .u8 0, .int .u8 0, .nilf, .nilp, .int .i32 0, .int .i32 0],
   .nilp]
theorem hT : PT Tryd.prog tt := ⟨ttL_ok 126 (by kernel_rfl) (by kernel_rfl) (by kernel_rfl), by kernel_rfl⟩
def ftl : List (Nat × Nat) := [(47, 14), (117, 22), (120, 29), (132, 17), (135, 16), (144, 43), (145, 39), (146, 51), (147, 52), (151, 34), (152, 35), (153, 12), (155, 18), (157, 32), (158, 33), (159, 36), (160, 37), (161, 38), (162, 13), (175, 19), (363, 3), (364, 9), (365, 10), (366, 11), (367, 15), (368, 4), (369, 20), (370, 21), (371, 5), (372, 23), (373, 24), (374, 6), (375, 7), (376, 25), (377, 26), (378, 27), (379, 28), (380, 8), (381, 30), (382, 31), (383, 40), (384, 41), (385, 42), (386, 44), (387, 45), (388, 46), (389, 47), (390, 48), (391, 49), (392, 50), (393, 53), (394, 54), (395, 55), (396, 57), (397, 56), (398, 58), (399, 59), (400, 60), (404, 65), (408, 68), (409, 69), (410, 70)]
def tyl : List (Nat × Nat) := [(0, 103), (4, 5), (6, 95), (10, 3), (13, 89), (16, 39), (19, 69), (20, 24), (21, 70), (22, 22), (23, 9), (46, 4), (50, 40), (51, 26), (52, 74), (53, 94), (54, 104)]
noncomputable def R : Env := { P := Tryd.prog, T := tt, ok := hT, ft := lkp ftl, ty := lkp tyl }
theorem h47 : R.Fn 47 c47 := ⟨by kernel_rfl⟩
theorem n47 : N47 R := ⟨h47⟩
theorem h144 : R.Fn 144 c144 := ⟨by kernel_rfl⟩
theorem n144 : N144 R := ⟨h144⟩
theorem h145 : R.Fn 145 c145 := ⟨by kernel_rfl⟩
theorem n145 : N145 R := ⟨h145⟩
theorem h117 : R.Fn 117 c117 := ⟨by kernel_rfl⟩
theorem n117 : N117 R := ⟨h117, n144, n145⟩
theorem h146 : R.Fn 146 c146 := ⟨by kernel_rfl⟩
theorem n146 : N146 R := ⟨h146⟩
theorem h147 : R.Fn 147 c147 := ⟨by kernel_rfl⟩
theorem n147 : N147 R := ⟨h147⟩
theorem h120 : R.Fn 120 c120 := ⟨by kernel_rfl⟩
theorem n120 : N120 R := ⟨h120, n146, n147⟩
theorem h151 : R.Fn 151 c151 := ⟨by kernel_rfl⟩
theorem n151 : N151 R := ⟨h151⟩
theorem h152 : R.Fn 152 c152 := ⟨by kernel_rfl⟩
theorem n152 : N152 R := ⟨h152⟩
theorem h157 : R.Fn 157 c157 := ⟨by kernel_rfl⟩
theorem n157 : N157 R := ⟨h157⟩
theorem h158 : R.Fn 158 c158 := ⟨by kernel_rfl⟩
theorem n158 : N158 R := ⟨h158, n157⟩
theorem h153 : R.Fn 153 c153 := ⟨by kernel_rfl⟩
theorem n153 : N153 R := ⟨h153, n157, n158⟩
theorem h132 : R.Fn 132 c132 := ⟨by kernel_rfl⟩
theorem n132 : N132 R := ⟨h132, n151, n152, n153⟩
theorem h135 : R.Fn 135 c135 := ⟨by kernel_rfl⟩
theorem n135 : N135 R := ⟨h135⟩
theorem h159 : R.Fn 159 c159 := ⟨by kernel_rfl⟩
theorem n159 : N159 R := ⟨h159⟩
theorem h160 : R.Fn 160 c160 := ⟨by kernel_rfl⟩
theorem n160 : N160 R := ⟨h160⟩
theorem h161 : R.Fn 161 c161 := ⟨by kernel_rfl⟩
theorem n161 : N161 R := ⟨h161⟩
theorem h162 : R.Fn 162 c162 := ⟨by kernel_rfl⟩
theorem n162 : N162 R := ⟨h162⟩
theorem h155 : R.Fn 155 c155 := ⟨by kernel_rfl⟩
theorem n155 : N155 R := ⟨h155, n159, n160, n161, n162⟩
theorem h175 : R.Fn 175 c175 := ⟨by kernel_rfl⟩
theorem n175 : N175 R := ⟨h175, n145⟩
theorem h364 : R.Fn 364 c364 := ⟨by kernel_rfl⟩
theorem n364 : N364 R := ⟨h364⟩
theorem h400 : R.Fn 400 c400 := ⟨by kernel_rfl⟩
theorem n400 : N400 R := ⟨h400⟩
theorem h399 : R.Fn 399 c399 := ⟨by kernel_rfl⟩
theorem n399 : N399 R := ⟨h399, n400⟩
theorem h396 : R.Fn 396 c396 := ⟨by kernel_rfl⟩
theorem n396 : N396 R := ⟨h396, n399⟩
theorem h393 : R.Fn 393 c393 := ⟨by kernel_rfl⟩
theorem n393 : N393 R := ⟨h393, n396⟩
theorem h381 : R.Fn 381 c381 := ⟨by kernel_rfl⟩
theorem n381 : N381 R := ⟨h381, n393⟩
theorem h365 : R.Fn 365 c365 := ⟨by kernel_rfl⟩
theorem n365 : N365 R := ⟨h365, n153, n381⟩
theorem h394 : R.Fn 394 c394 := ⟨by kernel_rfl⟩
theorem n394 : N394 R := ⟨h394⟩
theorem h382 : R.Fn 382 c382 := ⟨by kernel_rfl⟩
theorem n382 : N382 R := ⟨h382, n394⟩
theorem h366 : R.Fn 366 c366 := ⟨by kernel_rfl⟩
theorem n366 : N366 R := ⟨h366, n162, n382⟩
theorem h367 : R.Fn 367 c367 := ⟨by kernel_rfl⟩
theorem n367 : N367 R := ⟨h367, n365⟩
theorem h363 : R.Fn 363 c363 := ⟨by kernel_rfl⟩
theorem n363 : N363 R := ⟨h363, n47, n153, n162, n364, n365, n366, n367⟩
theorem h383 : R.Fn 383 c383 := ⟨by kernel_rfl⟩
theorem n383 : N383 R := ⟨h383⟩
theorem h384 : R.Fn 384 c384 := ⟨by kernel_rfl⟩
theorem n384 : N384 R := ⟨h384⟩
theorem h369 : R.Fn 369 c369 := ⟨by kernel_rfl⟩
theorem n369 : N369 R := ⟨h369, n152, n153, n383, n384⟩
theorem h385 : R.Fn 385 c385 := ⟨by kernel_rfl⟩
theorem n385 : N385 R := ⟨h385⟩
theorem h370 : R.Fn 370 c370 := ⟨by kernel_rfl⟩
theorem n370 : N370 R := ⟨h370, n160, n161, n162, n385⟩
theorem h368 : R.Fn 368 c368 := ⟨by kernel_rfl⟩
theorem n368 : N368 R := ⟨h368, n117, n132, n135, n155, n175, n364, n367, n369, n370⟩
theorem h398 : R.Xn 398 "internal/bytealg.IndexByte" := ⟨by kernel_rfl⟩
theorem n398 : N398 R := ⟨h398⟩
theorem h397 : R.Fn 397 c397 := ⟨by kernel_rfl⟩
theorem n397 : N397 R := ⟨h397, n398⟩
theorem h395 : R.Fn 395 c395 := ⟨by kernel_rfl⟩
theorem n395 : N395 R := ⟨h395, n397⟩
theorem h386 : R.Fn 386 c386 := ⟨by kernel_rfl⟩
theorem n386 : N386 R := ⟨h386, n395⟩
theorem h387 : R.Fn 387 c387 := ⟨by kernel_rfl⟩
theorem n387 : N387 R := ⟨h387⟩
theorem h388 : R.Fn 388 c388 := ⟨by kernel_rfl⟩
theorem n388 : N388 R := ⟨h388⟩
theorem h389 : R.Fn 389 c389 := ⟨by kernel_rfl⟩
theorem n389 : N389 R := ⟨h389, n47⟩
theorem h390 : R.Fn 390 c390 := ⟨by kernel_rfl⟩
theorem n390 : N390 R := ⟨h390⟩
theorem h372 : R.Fn 372 c372 := ⟨by kernel_rfl⟩
theorem n372 : N372 R := ⟨h372, n157, n158, n381, n386, n387, n388, n389, n390⟩
theorem h391 : R.Fn 391 c391 := ⟨by kernel_rfl⟩
theorem n391 : N391 R := ⟨h391⟩
theorem h392 : R.Fn 392 c392 := ⟨by kernel_rfl⟩
theorem n392 : N392 R := ⟨h392, n394⟩
theorem h373 : R.Fn 373 c373 := ⟨by kernel_rfl⟩
theorem n373 : N373 R := ⟨h373, n162, n391, n392⟩
theorem h371 : R.Fn 371 c371 := ⟨by kernel_rfl⟩
theorem n371 : N371 R := ⟨h371, n47, n175, n367, n372, n373⟩
theorem h374 : R.Fn 374 c374 := ⟨by kernel_rfl⟩
theorem n374 : N374 R := ⟨h374, n47, n175, n364, n365, n367, n372⟩
theorem h376 : R.Fn 376 c376 := ⟨by kernel_rfl⟩
theorem n376 : N376 R := ⟨h376, n132, n365⟩
theorem h377 : R.Fn 377 c377 := ⟨by kernel_rfl⟩
theorem n377 : N377 R := ⟨h377, n155, n366⟩
theorem h378 : R.Fn 378 c378 := ⟨by kernel_rfl⟩
theorem n378 : N378 R := ⟨h378, n152, n369, n372⟩
theorem h379 : R.Fn 379 c379 := ⟨by kernel_rfl⟩
theorem n379 : N379 R := ⟨h379, n370, n373⟩
theorem h375 : R.Fn 375 c375 := ⟨by kernel_rfl⟩
theorem n375 : N375 R := ⟨h375, n47, n117, n135, n367, n376, n377, n378, n379⟩
theorem h380 : R.Fn 380 c380 := ⟨by kernel_rfl⟩
theorem n380 : N380 R := ⟨h380, n47, n120, n132, n135, n367, n369, n376, n378⟩
end Go.Proofs.YtniidkdlkijhiaaDoor
