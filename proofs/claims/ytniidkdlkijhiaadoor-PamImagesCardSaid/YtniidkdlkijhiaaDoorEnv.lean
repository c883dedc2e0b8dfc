/- The program, as the machine has it. -/
import Derived.Test.YtniidkdlkijhiaaDoorU0
import Derived.Test.YtniidkdlkijhiaaDoorProg
namespace Go.Proofs.YtniidkdlkijhiaaDoor
open Go.AM Go.UM
noncomputable def tt : TT := ttL
  [.tup,
   .func,
   .int .i64,
   .int .i64,
   .bool,
   .int .u8,
   .int .u8,
   .struct [(0, 2), (1, 3), (2, 4), (3, 6)],
   .struct [(0, 2), (1, 3), (2, 4), (3, 6)],
   .str,
   .str,
   .str,
   .int .u64,
   .struct [(0, 9), (1, 12)],
   .struct [(0, 9), (1, 12)],
   .ptr 112,
   .ptr 115,
   .ptr 124,
   .struct [(0, 17)],
   .struct [(0, 17)],
   .iface,
   .int .i32,
   .slice 3,
   .struct [(0, 3), (1, 3), (2, 3), (3, 9), (4, 22)],
   .struct [(0, 3), (1, 3), (2, 3), (3, 9), (4, 22)],
   .func,
   .slice 5,
   .int .i64,
   .tup,
   .func,
   .tup,
   .func,
   .func,
   .func,
   .func,
   .func,
   .func,
   .slice 89,
   .struct [(0, 3), (1, 3), (2, 37), (3, 22), (4, 22), (5, 37), (6, 22), (7, 22)],
   .struct [(0, 3), (1, 3), (2, 37), (3, 22), (4, 22), (5, 37), (6, 22), (7, 22)],
   .slice 24,
   .func,
   .tup,
   .func,
   .tup,
   .func,
   .func,
   .tup,
   .func,
   .tup,
   .func,
   .func,
   .func,
   .tup,
   .func,
   .tup,
   .func,
   .func,
   .func,
   .func,
   .func,
   .func,
   .func,
   .func,
   .func,
   .int .u64,
   .func,
   .func,
   .func,
   .arr 6 22,
   .arr 6 24,
   .func,
   .slice 22,
   .func,
   .slice 9,
   .func,
   .func,
   .func,
   .func,
   .func,
   .func,
   .func,
   .func,
   .tup,
   .func,
   .func,
   .func,
   .tup,
   .func,
   .arr 3 3,
   .func,
   .func,
   .func,
   .func,
   .arr 24 5,
   .int .u64,
   .func,
   .func,
   .tup,
   .func,
   .func,
   .func,
   .arr 20 95,
   .int .u32,
   .arr 65 5,
   .func,
   .func,
   .func,
   .arr 32 5,
   .arr 64 5,
   .func,
   .struct [(0, 17), (1, 17), (2, 17), (3, 9)],
   .struct [(0, 17), (1, 17), (2, 17), (3, 9)],
   .arr 0 16,
   .struct [(0, 113)],
   .struct [(0, 113)],
   .func,
   .int .u8,
   .int .u8,
   .func,
   .ptr 5,
   .int .i32,
   .int .i32,
   .struct [(0, 12), (1, 12), (2, 103), (3, 117), (4, 5), (5, 5), (6, 118), (7, 119), (8, 120), (9, 121), (10, 122)],
   .struct [(0, 12), (1, 12), (2, 103), (3, 117), (4, 5), (5, 5), (6, 118), (7, 119), (8, 120), (9, 121), (10, 122)],
   .other]
  [1, 1, 1, 1, 1, 1, 1, 4, 4, 1, 1, 1, 1, 2, 2, 1, 1, 1, 1, 1, 1, 1, 1, 5, 5, 1, 1, 1, 1, 1, 1, 1, 1, 1, 1, 1, 1, 1, 8, 8, 1, 1, 1, 1, 1, 1, 1, 1, 1, 1, 1, 1, 1, 1, 1, 1, 1, 1, 1, 1, 1, 1, 1, 1, 1, 1, 1, 1, 1, 6, 30, 1, 1, 1, 1, 1, 1, 1, 1, 1, 1, 1, 1, 1, 1, 1, 1, 1, 1, 3, 1, 1, 1, 1, 24, 1, 1, 1, 1, 1, 1, 1, 20, 1, 65, 1, 1, 1, 32, 64, 1, 4, 4, 0, 0, 0, 1, 1, 1, 1, 1, 1, 1, 11, 11, 1]
  [.tup [],
   .nilf,
   .int .i64 0,
   .int .i64 0,
   .bool false,
   .int .u8 0,
   .int .u8 0,
   .agg [.int .i64 0, .int .i64 0, .bool false, .int .u8 0],
   .agg [.int .i64 0, .int .i64 0, .bool false, .int .u8 0],
   .str [],
   .str [],
   .str [],
   .int .u64 0,
   .agg [.str [], .int .u64 0],
   .agg [.str [], .int .u64 0],
   .nilp,
   .nilp,
   .nilp,
   .agg [.nilp],
   .agg [.nilp],
   .nili,
   .int .i32 0,
   .nils,
   .agg [.int .i64 0, .int .i64 0, .int .i64 0, .str [], .nils],
   .agg [.int .i64 0, .int .i64 0, .int .i64 0, .str [], .nils],
   .nilf,
   .nils,
   .int .i64 0,
   .tup [.nils, .int .i64 0],
   .nilf,
   .tup [.nils, .int .i64 0],
   .nilf,
   .nilf,
   .nilf,
   .nilf,
   .nilf,
   .nilf,
   .nils,
   .agg [.int .i64 0, .int .i64 0, .nils, .nils, .nils, .nils, .nils, .nils],
   .agg [.int .i64 0, .int .i64 0, .nils, .nils, .nils, .nils, .nils, .nils],
   .nils,
   .nilf,
   .tup [.nils, .int .i64 0],
   .nilf,
   .tup [.nils, .int .i64 0],
   .nilf,
   .nilf,
   .tup [.bad, .int .i64 0],
   .nilf,
   .tup [.bad, .int .i64 0],
   .nilf,
   .nilf,
   .nilf,
   .tup [.bad, .nils, .int .i64 0],
   .nilf,
   .tup [.bad, .nils, .int .i64 0],
   .nilf,
   .nilf,
   .nilf,
   .nilf,
   .nilf,
   .nilf,
   .nilf,
   .nilf,
   .nilf,
   .int .u64 0,
   .nilf,
   .nilf,
   .nilf,
   .agg [.nils, .nils, .nils, .nils, .nils, .nils],
   .agg [.int .i64 0, .int .i64 0, .int .i64 0, .str [], .nils, .int .i64 0, .int .i64 0, .int .i64 0, .str [], .nils, .int .i64 0, .int .i64 0, .int .i64 0, .str [], .nils, .int .i64 0, .int .i64 0, .int .i64 0, .str [], .nils, .int .i64 0, .int .i64 0, .int .i64 0, .str [], .nils, .int .i64 0, .int .i64 0, .int .i64 0, .str [], .nils],
   .nilf,
   .nils,
   .nilf,
   .nils,
   .nilf,
   .nilf,
   .nilf,
   .nilf,
   .nilf,
   .nilf,
   .nilf,
   .nilf,
   .tup [.str [], .bool false],
   .nilf,
   .nilf,
   .nilf,
   .tup [.str [], .int .i64 0],
   .nilf,
   .agg [.int .i64 0, .int .i64 0, .int .i64 0],
   .nilf,
   .nilf,
   .nilf,
   .nilf,
   .agg [.int .u8 0, .int .u8 0, .int .u8 0, .int .u8 0, .int .u8 0, .int .u8 0, .int .u8 0, .int .u8 0, .int .u8 0, .int .u8 0, .int .u8 0, .int .u8 0, .int .u8 0, .int .u8 0, .int .u8 0, .int .u8 0, .int .u8 0, .int .u8 0, .int .u8 0, .int .u8 0, .int .u8 0, .int .u8 0, .int .u8 0, .int .u8 0],
   .int .u64 0,
   .nilf,
   .nilf,
   .tup [.nils, .str []],
   .nilf,
   .nilf,
   .nilf,
   .agg [.int .u64 0, .int .u64 0, .int .u64 0, .int .u64 0, .int .u64 0, .int .u64 0, .int .u64 0, .int .u64 0, .int .u64 0, .int .u64 0, .int .u64 0, .int .u64 0, .int .u64 0, .int .u64 0, .int .u64 0, .int .u64 0, .int .u64 0, .int .u64 0, .int .u64 0, .int .u64 0],
   .int .u32 0,
   .agg [.int .u8 0, .int .u8 0, .int .u8 0, .int .u8 0, .int .u8 0, .int .u8 0, .int .u8 0, .int .u8 0, .int .u8 0, .int .u8 0, .int .u8 0, .int .u8 0, .int .u8 0, .int .u8 0, .int .u8 0, .int .u8 0, .int .u8 0, .int .u8 0, .int .u8 0, .int .u8 0, .int .u8 0, .int .u8 0, .int .u8 0, .int .u8 0, .int .u8 0, .int .u8 0, .int .u8 0, .int .u8 0, .int .u8 0, .int .u8 0, .int .u8 0, .int .u8 0, .int .u8 0, .int .u8 0, .int .u8 0, .int .u8 0, .int .u8 0, .int .u8 0, .int .u8 0, .int .u8 0, .int .u8 0, .int .u8 0, .int .u8 0, .int .u8 0, .int .u8 0, .int .u8 0, .int .u8 0, .int .u8 0, .int .u8 0, .int .u8 0, .int .u8 0, .int .u8 0, .int .u8 0, .int .u8 0, .int .u8 0, .int .u8 0, .int .u8 0, .int .u8 0, .int .u8 0, .int .u8 0, .int .u8 0, .int .u8 0, .int .u8 0, .int .u8 0, .int .u8 0],
   .nilf,
   .nilf,
   .nilf,
   .agg [.int .u8 0, .int .u8 0, .int .u8 0, .int .u8 0, .int .u8 0, .int .u8 0, .int .u8 0, .int .u8 0, .int .u8 0, .int .u8 0, .int .u8 0, .int .u8 0, .int .u8 0, .int .u8 0, .int .u8 0, .int .u8 0, .int .u8 0, .int .u8 0, .int .u8 0, .int .u8 0, .int .u8 0, .int .u8 0, .int .u8 0, .int .u8 0, .int .u8 0, .int .u8 0, .int .u8 0, .int .u8 0, .int .u8 0, .int .u8 0, .int .u8 0, .int .u8 0],
   .agg [.int .u8 0, .int .u8 0, .int .u8 0, .int .u8 0, .int .u8 0, .int .u8 0, .int .u8 0, .int .u8 0, .int .u8 0, .int .u8 0, .int .u8 0, .int .u8 0, .int .u8 0, .int .u8 0, .int .u8 0, .int .u8 0, .int .u8 0, .int .u8 0, .int .u8 0, .int .u8 0, .int .u8 0, .int .u8 0, .int .u8 0, .int .u8 0, .int .u8 0, .int .u8 0, .int .u8 0, .int .u8 0, .int .u8 0, .int .u8 0, .int .u8 0, .int .u8 0, .int .u8 0, .int .u8 0, .int .u8 0, .int .u8 0, .int .u8 0, .int .u8 0, .int .u8 0, .int .u8 0, .int .u8 0, .int .u8 0, .int .u8 0, .int .u8 0, .int .u8 0, .int .u8 0, .int .u8 0, .int .u8 0, .int .u8 0, .int .u8 0, .int .u8 0, .int .u8 0, .int .u8 0, .int .u8 0, .int .u8 0, .int .u8 0, .int .u8 0, .int .u8 0, .int .u8 0, .int .u8 0, .int .u8 0, .int .u8 0, .int .u8 0, .int .u8 0],
   .nilf,
   .agg [.nilp, .nilp, .nilp, .str []],
   .agg [.nilp, .nilp, .nilp, .str []],
   .agg [],
   .agg [],
   .agg [],
   .nilf,
   .int .u8 0,
   .int .u8 0,
   .nilf,
   .nilp,
   .int .i32 0,
   .int .i32 0,
   .agg [.int .u64 0, .int .u64 0, .int .u32 0, .int .u8 0, .int .u8 0, .int .u8 0, .int .u8 0, .nilf, .nilp, .int .i32 0, .int .i32 0],
   .agg [.int .u64 0, .int .u64 0, .int .u32 0, .int .u8 0, .int .u8 0, .int .u8 0, .int .u8 0, .nilf, .nilp, .int .i32 0, .int .i32 0],
   .nilp]
theorem hT : PT Tryd.prog tt := ⟨ttL_ok 126 (by kernel_rfl) (by kernel_rfl) (by kernel_rfl), by kernel_rfl⟩
def ftl : List (Nat × Nat) := [(47, 14), (117, 22), (120, 29), (132, 17), (135, 16), (144, 43), (145, 39), (146, 51), (147, 52), (151, 34), (152, 35), (153, 12), (155, 18), (157, 32), (158, 33), (159, 36), (160, 37), (161, 38), (162, 13), (175, 19), (363, 3), (364, 9), (365, 10), (366, 11), (367, 15), (368, 4), (369, 20), (370, 21), (371, 5), (372, 23), (373, 24), (374, 6), (375, 7), (376, 25), (377, 26), (378, 27), (379, 28), (380, 8), (381, 30), (382, 31), (383, 40), (384, 41), (385, 42), (386, 44), (387, 45), (388, 46), (389, 47), (390, 48), (391, 49), (392, 50), (393, 53), (394, 54), (395, 55), (396, 57), (397, 56), (399, 59), (400, 60), (404, 65), (408, 68), (409, 69), (410, 70)]
def tyl : List (Nat × Nat) := [(0, 103), (4, 5), (6, 95), (10, 3), (13, 89), (16, 39), (19, 69), (20, 24), (21, 70), (22, 22), (23, 9), (46, 4), (50, 40), (51, 26), (52, 74), (53, 94), (54, 104)]
noncomputable def R : Env := { P := Tryd.prog, T := tt, ok := hT, ft := lkp ftl, ty := lkp tyl }
theorem h144 : R.Fn 144 c144 := ⟨by kernel_rfl⟩
theorem n144 : N144 R := ⟨h144⟩
theorem h145 : R.Fn 145 c145 := ⟨by kernel_rfl⟩
theorem n145 : N145 R := ⟨h145⟩
theorem h117 : R.Fn 117 c117 := ⟨by kernel_rfl⟩
theorem n117 : N117 R := ⟨h117, n144, n145⟩
theorem h151 : R.Fn 151 c151 := ⟨by kernel_rfl⟩
theorem n151 : N151 R := ⟨h151⟩
theorem h152 : R.Fn 152 c152 := ⟨by kernel_rfl⟩
theorem n152 : N152 R := ⟨h152⟩
theorem h157 : R.Fn 157 c157 := ⟨by kernel_rfl⟩
theorem n157 : N157 R := ⟨h157⟩
theorem h158 : R.Fn 158 c158 := ⟨by kernel_rfl⟩
theorem n158 : N158 R := ⟨h158, n157⟩
theorem h153 : R.Fn 153 c153 := ⟨by kernel_rfl⟩
theorem n153 : N153 R := ⟨h153, n157, n158⟩
theorem h132 : R.Fn 132 c132 := ⟨by kernel_rfl⟩
theorem n132 : N132 R := ⟨h132, n151, n152, n153⟩
theorem h135 : R.Fn 135 c135 := ⟨by kernel_rfl⟩
theorem n135 : N135 R := ⟨h135⟩
theorem h159 : R.Fn 159 c159 := ⟨by kernel_rfl⟩
theorem n159 : N159 R := ⟨h159⟩
theorem h160 : R.Fn 160 c160 := ⟨by kernel_rfl⟩
theorem n160 : N160 R := ⟨h160⟩
theorem h161 : R.Fn 161 c161 := ⟨by kernel_rfl⟩
theorem n161 : N161 R := ⟨h161⟩
theorem h162 : R.Fn 162 c162 := ⟨by kernel_rfl⟩
theorem n162 : N162 R := ⟨h162⟩
theorem h155 : R.Fn 155 c155 := ⟨by kernel_rfl⟩
theorem n155 : N155 R := ⟨h155, n159, n160, n161, n162⟩
theorem h175 : R.Fn 175 c175 := ⟨by kernel_rfl⟩
theorem n175 : N175 R := ⟨h175, n145⟩
theorem h364 : R.Fn 364 c364 := ⟨by kernel_rfl⟩
theorem n364 : N364 R := ⟨h364⟩
theorem h400 : R.Fn 400 c400 := ⟨by kernel_rfl⟩
theorem n400 : N400 R := ⟨h400⟩
theorem h399 : R.Fn 399 c399 := ⟨by kernel_rfl⟩
theorem n399 : N399 R := ⟨h399, n400⟩
theorem h396 : R.Fn 396 c396 := ⟨by kernel_rfl⟩
theorem n396 : N396 R := ⟨h396, n399⟩
theorem h393 : R.Fn 393 c393 := ⟨by kernel_rfl⟩
theorem n393 : N393 R := ⟨h393, n396⟩
theorem h381 : R.Fn 381 c381 := ⟨by kernel_rfl⟩
theorem n381 : N381 R := ⟨h381, n393⟩
theorem h365 : R.Fn 365 c365 := ⟨by kernel_rfl⟩
theorem n365 : N365 R := ⟨h365, n153, n381⟩
theorem h367 : R.Fn 367 c367 := ⟨by kernel_rfl⟩
theorem n367 : N367 R := ⟨h367, n365⟩
theorem h383 : R.Fn 383 c383 := ⟨by kernel_rfl⟩
theorem n383 : N383 R := ⟨h383⟩
theorem h384 : R.Fn 384 c384 := ⟨by kernel_rfl⟩
theorem n384 : N384 R := ⟨h384⟩
theorem h369 : R.Fn 369 c369 := ⟨by kernel_rfl⟩
theorem n369 : N369 R := ⟨h369, n152, n153, n383, n384⟩
theorem h385 : R.Fn 385 c385 := ⟨by kernel_rfl⟩
theorem n385 : N385 R := ⟨h385⟩
theorem h370 : R.Fn 370 c370 := ⟨by kernel_rfl⟩
theorem n370 : N370 R := ⟨h370, n160, n161, n162, n385⟩
theorem h368 : R.Fn 368 c368 := ⟨by kernel_rfl⟩
theorem n368 : N368 R := ⟨h368, n117, n132, n135, n155, n175, n364, n367, n369, n370⟩
end Go.Proofs.YtniidkdlkijhiaaDoor
