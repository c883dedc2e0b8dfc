/- The program, as the machine has it. -/
import Derived.Test.YtkgegkdabdmmjaaU0
import Derived.Test.YtkgegkdabdmmjaaProg
namespace Go.Proofs.Ytkgegkdabdmmjaa
open Go.AM Go.UM
noncomputable def tt : TT := ttL
  [.tup,
   .func,
   .int .i64,
   .int .i64,
   .bool,
   .int .u8,
   .int .u8,
   .struct [(0, 2), (1, 3), (2, 4), (3, 6)],
   .struct [(0, 2), (1, 3), (2, 4), (3, 6)],
   .str,
   .str,
   .str,
   .int .u64,
   .struct [(0, 9), (1, 12)],
   .struct [(0, 9), (1, 12)],
   .ptr 78,
   .ptr 81,
   .ptr 90,
   .struct [(0, 17)],
   .struct [(0, 17)],
   .iface,
   .int .i32,
   .slice 41,
   .struct [(0, 3), (1, 22)],
   .struct [(0, 3), (1, 22)],
   .func,
   .slice 5,
   .int .i64,
   .tup,
   .func,
   .tup,
   .func,
   .func,
   .func,
   .func,
   .func,
   .func,
   .slice 24,
   .tup,
   .func,
   .func,
   .arr 3 3,
   .tup,
   .func,
   .tup,
   .func,
   .tup,
   .func,
   .tup,
   .func,
   .func,
   .func,
   .func,
   .func,
   .func,
   .func,
   .func,
   .slice 3,
   .func,
   .func,
   .func,
   .func,
   .ptr 75,
   .func,
   .int .u64,
   .func,
   .func,
   .func,
   .ptr 70,
   .struct [(0, 26), (1, 3), (2, 3)],
   .struct [(0, 26), (1, 3), (2, 3)],
   .func,
   .func,
   .func,
   .struct [(0, 26), (1, 27), (2, 4)],
   .struct [(0, 26), (1, 27), (2, 4)],
   .func,
   .struct [(0, 17), (1, 17), (2, 17), (3, 9)],
   .struct [(0, 17), (1, 17), (2, 17), (3, 9)],
   .arr 0 16,
   .struct [(0, 79)],
   .struct [(0, 79)],
   .int .u32,
   .int .u8,
   .int .u8,
   .func,
   .ptr 5,
   .int .i32,
   .int .i32,
   .struct [(0, 12), (1, 12), (2, 82), (3, 83), (4, 5), (5, 5), (6, 84), (7, 85), (8, 86), (9, 87), (10, 88)],
   .struct [(0, 12), (1, 12), (2, 82), (3, 83), (4, 5), (5, 5), (6, 84), (7, 85), (8, 86), (9, 87), (10, 88)],
   .other]
  [1, 1, 1, 1, 1, 1, 1, 4, 4, 1, 1, 1, 1, 2, 2, 1, 1, 1, 1, 1, 1, 1, 1, 2, 2, 1, 1, 1, 1, 1, 1, 1, 1, 1, 1, 1, 1, 1, 1, 1, 1, 3, 1, 1, 1, 1, 1, 1, 1, 1, 1, 1, 1, 1, 1, 1, 1, 1, 1, 1, 1, 1, 1, 1, 1, 1, 1, 1, 1, 3, 3, 1, 1, 1, 3, 3, 1, 4, 4, 0, 0, 0, 1, 1, 1, 1, 1, 1, 1, 11, 11, 1]
  [.tup [],
   .nilf,
   .int .i64 0,
   .int .i64 0,
   .bool false,
   .int .u8 0,
   .int .u8 0,
   .agg [.int .i64 0, .int .i64 0, .bool false, .int .u8 0],
   .agg [.int .i64 0, .int .i64 0, .bool false, .int .u8 0],
   .str [],
   .str [],
   .str [],
   .int .u64 0,
   .agg [.str [], .int .u64 0],
   .agg [.str [], .int .u64 0],
   .nilp,
   .nilp,
   .nilp,
   .agg [.nilp],
   .agg [.nilp],
   .nili,
   .int .i32 0,
   .nils,
   .agg [.int .i64 0, .nils],
   .agg [.int .i64 0, .nils],
   .nilf,
   .nils,
   .int .i64 0,
   .tup [.nils, .int .i64 0],
   .nilf,
   .tup [.nils, .int .i64 0],
   .nilf,
   .nilf,
   .nilf,
   .nilf,
   .nilf,
   .nilf,
   .nils,
   .tup [.nils, .int .i64 0],
   .nilf,
   .nilf,
   .agg [.int .i64 0, .int .i64 0, .int .i64 0],
   .tup [.bad, .int .i64 0],
   .nilf,
   .tup [.bad, .int .i64 0],
   .nilf,
   .tup [.nils, .int .i64 0],
   .nilf,
   .tup [.bad, .int .i64 0],
   .nilf,
   .nilf,
   .nilf,
   .nilf,
   .nilf,
   .nilf,
   .nilf,
   .nilf,
   .nils,
   .nilf,
   .nilf,
   .nilf,
   .nilf,
   .nilp,
   .nilf,
   .int .u64 0,
   .nilf,
   .nilf,
   .nilf,
   .nilp,
   .agg [.nils, .int .i64 0, .int .i64 0],
   .agg [.nils, .int .i64 0, .int .i64 0],
   .nilf,
   .nilf,
   .nilf,
   .agg [.nils, .int .i64 0, .bool false],
   .agg [.nils, .int .i64 0, .bool false],
   .nilf,
   .agg [.nilp, .nilp, .nilp, .str []],
   .agg [.nilp, .nilp, .nilp, .str []],
   .agg [],
   .agg [],
   .agg [],
   .int .u32 0,
   .int .u8 0,
   .int .u8 0,
   .nilf,
   .nilp,
   .int .i32 0,
   .int .i32 0,
   .agg [.int .u64 0, .int .u64 0, .int .u32 0, .int .u8 0, .int .u8 0, .int .u8 0, .int .u8 0, .nilf, .nilp, .int .i32 0, .int .i32 0],
   .agg [.int .u64 0, .int .u64 0, .int .u32 0, .int .u8 0, .int .u8 0, .int .u8 0, .int .u8 0, .nilf, .nilp, .int .i32 0, .int .i32 0],
   .nilp]
theorem hT : PT Try.prog tt := ⟨ttL_ok 92 (by kernel_rfl) (by kernel_rfl) (by kernel_rfl), by kernel_rfl⟩
def ftl : List (Nat × Nat) := [(47, 13), (56, 30), (57, 31), (59, 32), (60, 33), (61, 34), (62, 38), (64, 39), (65, 40), (66, 41), (69, 35), (80, 3), (81, 8), (82, 9), (83, 10), (84, 11), (85, 12), (86, 14), (87, 4), (88, 15), (89, 16), (90, 5), (91, 17), (92, 18), (93, 19), (94, 20), (95, 21), (96, 6), (97, 22), (98, 23), (99, 7), (100, 24), (101, 26), (102, 25), (103, 27), (104, 28), (105, 29), (106, 36), (107, 37)]
def tyl : List (Nat × Nat) := [(0, 82), (4, 5), (6, 64), (8, 70), (9, 75), (10, 3), (12, 24), (13, 41), (14, 37), (22, 57), (23, 9), (46, 4)]
noncomputable def R : Env := { P := Try.prog, T := tt, ok := hT, ft := lkp ftl, ty := lkp tyl }
theorem h81 : R.Fn 81 c81 := ⟨by kernel_rfl⟩
theorem n81 : N81 R := ⟨h81⟩
theorem h106 : R.Fn 106 c106 := ⟨by kernel_rfl⟩
theorem n106 : N106 R := ⟨h106⟩
theorem h100 : R.Fn 100 c100 := ⟨by kernel_rfl⟩
theorem n100 : N100 R := ⟨h100, n106⟩
theorem h84 : R.Fn 84 c84 := ⟨by kernel_rfl⟩
theorem n84 : N84 R := ⟨h84, n100⟩
theorem h85 : R.Fn 85 c85 := ⟨by kernel_rfl⟩
theorem n85 : N85 R := ⟨h85⟩
theorem h104 : R.Fn 104 c104 := ⟨by kernel_rfl⟩
theorem n104 : N104 R := ⟨h104⟩
theorem h103 : R.Fn 103 c103 := ⟨by kernel_rfl⟩
theorem n103 : N103 R := ⟨h103, n104⟩
theorem h91 : R.Fn 91 c91 := ⟨by kernel_rfl⟩
theorem n91 : N91 R := ⟨h91, n84, n103⟩
theorem h86 : R.Fn 86 c86 := ⟨by kernel_rfl⟩
theorem n86 : N86 R := ⟨h86, n91⟩
theorem h101 : R.Fn 101 c101 := ⟨by kernel_rfl⟩
theorem n101 : N101 R := ⟨h101⟩
theorem h107 : R.Fn 107 c107 := ⟨by kernel_rfl⟩
theorem n107 : N107 R := ⟨h107, n103⟩
theorem h102 : R.Fn 102 c102 := ⟨by kernel_rfl⟩
theorem n102 : N102 R := ⟨h102, n107⟩
theorem h88 : R.Fn 88 c88 := ⟨by kernel_rfl⟩
theorem n88 : N88 R := ⟨h88, n84, n101, n102⟩
theorem h89 : R.Fn 89 c89 := ⟨by kernel_rfl⟩
theorem n89 : N89 R := ⟨h89⟩
theorem h105 : R.Fn 105 c105 := ⟨by kernel_rfl⟩
theorem n105 : N105 R := ⟨h105⟩
theorem h95 : R.Fn 95 c95 := ⟨by kernel_rfl⟩
theorem n95 : N95 R := ⟨h95, n105⟩
theorem h92 : R.Fn 92 c92 := ⟨by kernel_rfl⟩
theorem n92 : N92 R := ⟨h92, n85, n95⟩
theorem h93 : R.Fn 93 c93 := ⟨by kernel_rfl⟩
theorem n93 : N93 R := ⟨h93, n85, n92⟩
theorem h94 : R.Fn 94 c94 := ⟨by kernel_rfl⟩
theorem n94 : N94 R := ⟨h94, n84, n104⟩
theorem h90 : R.Fn 90 c90 := ⟨by kernel_rfl⟩
theorem n90 : N90 R := ⟨h90, n81, n86, n88, n89, n91, n92, n93, n94, n95⟩
end Go.Proofs.Ytkgegkdabdmmjaa
