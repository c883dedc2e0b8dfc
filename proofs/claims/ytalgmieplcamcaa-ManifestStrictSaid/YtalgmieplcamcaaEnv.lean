/- The program, as the machine has it: its types, its numbers, its functions. -/
import Derived.Test.YtalgmieplcamcaaU0
import Derived.Test.YtalgmieplcamcaaProg
namespace Go.Proofs.Ytalgmieplcamcaa
open Go.AM Go.UM
noncomputable def tt : TT := ttL
  [.tup,
   .func,
   .int .i64,
   .int .i64,
   .bool,
   .int .u8,
   .int .u8,
   .struct [(0, 2), (1, 3), (2, 4), (3, 6)],
   .struct [(0, 2), (1, 3), (2, 4), (3, 6)],
   .str,
   .str,
   .str,
   .int .u64,
   .struct [(0, 9), (1, 12)],
   .struct [(0, 9), (1, 12)],
   .ptr 66,
   .ptr 69,
   .ptr 77,
   .struct [(0, 17)],
   .struct [(0, 17)],
   .iface,
   .int .i32,
   .int .u64,
   .int .u32,
   .arr 8 5,
   .struct [(0, 22), (1, 3), (2, 23), (3, 24), (11, 23), (12, 23), (13, 3), (14, 3)],
   .struct [(0, 22), (1, 3), (2, 23), (3, 24), (11, 23), (12, 23), (13, 3), (14, 3)],
   .func,
   .int .i64,
   .func,
   .func,
   .func,
   .func,
   .slice 5,
   .tup,
   .func,
   .tup,
   .func,
   .func,
   .func,
   .tup,
   .func,
   .tup,
   .func,
   .func,
   .func,
   .func,
   .arr 5 3,
   .func,
   .func,
   .slice 22,
   .ptr 63,
   .func,
   .struct [(0, 51)],
   .struct [(0, 51)],
   .func,
   .func,
   .func,
   .ptr 60,
   .struct [(0, 33), (1, 3), (2, 3)],
   .struct [(0, 33), (1, 3), (2, 3)],
   .func,
   .struct [(0, 33), (1, 28), (2, 4)],
   .struct [(0, 33), (1, 28), (2, 4)],
   .func,
   .struct [(0, 17), (1, 17), (2, 17), (3, 9)],
   .struct [(0, 17), (1, 17), (2, 17), (3, 9)],
   .arr 0 16,
   .struct [(0, 67)],
   .struct [(0, 67)],
   .int .u8,
   .int .u8,
   .func,
   .ptr 5,
   .int .i32,
   .int .i32,
   .struct [(0, 12), (1, 12), (2, 23), (3, 70), (4, 5), (5, 5), (6, 71), (7, 72), (8, 73), (9, 74), (10, 75)],
   .struct [(0, 12), (1, 12), (2, 23), (3, 70), (4, 5), (5, 5), (6, 71), (7, 72), (8, 73), (9, 74), (10, 75)],
   .other]
  [1, 1, 1, 1, 1, 1, 1, 4, 4, 1, 1, 1, 1, 2, 2, 1, 1, 1, 1, 1, 1, 1, 1, 1, 8, 15, 15, 1, 1, 1, 1, 1, 1, 1, 1, 1, 1, 1, 1, 1, 1, 1, 1, 1, 1, 1, 1, 5, 1, 1, 1, 1, 1, 1, 1, 1, 1, 1, 1, 3, 3, 1, 3, 3, 1, 4, 4, 0, 0, 0, 1, 1, 1, 1, 1, 1, 11, 11, 1]
  [.tup [],
   .nilf,
   .int .i64 0,
   .int .i64 0,
   .bool false,
   .int .u8 0,
   .int .u8 0,
   .agg [.int .i64 0, .int .i64 0, .bool false, .int .u8 0],
   .agg [.int .i64 0, .int .i64 0, .bool false, .int .u8 0],
   .str [],
   .str [],
   .str [],
   .int .u64 0,
   .agg [.str [], .int .u64 0],
   .agg [.str [], .int .u64 0],
   .nilp,
   .nilp,
   .nilp,
   .agg [.nilp],
   .agg [.nilp],
   .nili,
   .int .i32 0,
   .int .u64 0,
   .int .u32 0,
   .agg [.int .u8 0, .int .u8 0, .int .u8 0, .int .u8 0, .int .u8 0, .int .u8 0, .int .u8 0, .int .u8 0],
   .agg [.int .u64 0, .int .i64 0, .int .u32 0, .int .u8 0, .int .u8 0, .int .u8 0, .int .u8 0, .int .u8 0, .int .u8 0, .int .u8 0, .int .u8 0, .int .u32 0, .int .u32 0, .int .i64 0, .int .i64 0],
   .agg [.int .u64 0, .int .i64 0, .int .u32 0, .int .u8 0, .int .u8 0, .int .u8 0, .int .u8 0, .int .u8 0, .int .u8 0, .int .u8 0, .int .u8 0, .int .u32 0, .int .u32 0, .int .i64 0, .int .i64 0],
   .nilf,
   .int .i64 0,
   .nilf,
   .nilf,
   .nilf,
   .nilf,
   .nils,
   .tup [.nils, .int .i64 0],
   .nilf,
   .tup [.nils, .int .i64 0],
   .nilf,
   .nilf,
   .nilf,
   .tup [.bad, .int .i64 0],
   .nilf,
   .tup [.bad, .int .i64 0],
   .nilf,
   .nilf,
   .nilf,
   .nilf,
   .agg [.int .i64 0, .int .i64 0, .int .i64 0, .int .i64 0, .int .i64 0],
   .nilf,
   .nilf,
   .nils,
   .nilp,
   .nilf,
   .agg [.nilp],
   .agg [.nilp],
   .nilf,
   .nilf,
   .nilf,
   .nilp,
   .agg [.nils, .int .i64 0, .int .i64 0],
   .agg [.nils, .int .i64 0, .int .i64 0],
   .nilf,
   .agg [.nils, .int .i64 0, .bool false],
   .agg [.nils, .int .i64 0, .bool false],
   .nilf,
   .agg [.nilp, .nilp, .nilp, .str []],
   .agg [.nilp, .nilp, .nilp, .str []],
   .agg [],
   .agg [],
   .agg [],
   .int .u8 0,
   .int .u8 0,
   .nilf,
   .nilp,
   .int .i32 0,
   .int .i32 0,
   .agg [.int .u64 0, .int .u64 0, .int .u32 0, .int .u8 0, .int .u8 0, .int .u8 0, .int .u8 0, .nilf, .nilp, .int .i32 0, .int .i32 0],
   .agg [.int .u64 0, .int .u64 0, .int .u32 0, .int .u8 0, .int .u8 0, .int .u8 0, .int .u8 0, .nilf, .nilp, .int .i32 0, .int .i32 0],
   .nilp]
theorem hT : PT Try.prog tt := ⟨ttL_ok 79 (by kernel_rfl) (by kernel_rfl) (by kernel_rfl), by kernel_rfl⟩
def ftl : List (Nat × Nat) := [(36, 3), (37, 8), (38, 9), (39, 10), (40, 11), (41, 12), (42, 13), (43, 14), (44, 4), (45, 15), (46, 16), (47, 17), (48, 5), (49, 18), (50, 19), (51, 6), (52, 20), (53, 7), (54, 21), (55, 22), (56, 23), (57, 24), (58, 25), (59, 26), (60, 27), (61, 28), (62, 29), (63, 30), (64, 31), (65, 32), (66, 33)]
def tyl : List (Nat × Nat) := [(0, 23), (1, 24), (2, 26), (4, 5), (5, 47), (6, 22), (7, 54), (8, 60), (9, 63), (10, 3), (23, 9), (46, 4)]
noncomputable def R : Env := { P := Try.prog, T := tt, ok := hT, ft := lkp ftl, ty := lkp tyl }
theorem h37 : R.Fn 37 c37 := ⟨by kernel_rfl⟩
theorem n37 : N37 R := ⟨h37⟩
theorem h38 : R.Fn 38 c38 := ⟨by kernel_rfl⟩
theorem n38 : N38 R := ⟨h38⟩
theorem h39 : R.Fn 39 c39 := ⟨by kernel_rfl⟩
theorem n39 : N39 R := ⟨h39⟩
theorem h40 : R.Fn 40 c40 := ⟨by kernel_rfl⟩
theorem n40 : N40 R := ⟨h40⟩
theorem h41 : R.Fn 41 c41 := ⟨by kernel_rfl⟩
theorem n41 : N41 R := ⟨h41, n37, n39⟩
theorem h42 : R.Fn 42 c42 := ⟨by kernel_rfl⟩
theorem n42 : N42 R := ⟨h42, n38, n40⟩
theorem h52 : R.Fn 52 c52 := ⟨by kernel_rfl⟩
theorem n52 : N52 R := ⟨h52⟩
theorem h43 : R.Fn 43 c43 := ⟨by kernel_rfl⟩
theorem n43 : N43 R := ⟨h43, n39, n41, n52⟩
theorem h36 : R.Fn 36 c36 := ⟨by kernel_rfl⟩
theorem n36 : N36 R := ⟨h36, n37, n38, n39, n40, n41, n42, n43⟩
theorem h62 : R.Fn 62 c62 := ⟨by kernel_rfl⟩
theorem n62 : N62 R := ⟨h62⟩
theorem h54 : R.Fn 54 c54 := ⟨by kernel_rfl⟩
theorem n54 : N54 R := ⟨h54, n62⟩
theorem h45 : R.Fn 45 c45 := ⟨by kernel_rfl⟩
theorem n45 : N45 R := ⟨h45, n41, n54⟩
theorem h63 : R.Fn 63 c63 := ⟨by kernel_rfl⟩
theorem n63 : N63 R := ⟨h63⟩
theorem h55 : R.Fn 55 c55 := ⟨by kernel_rfl⟩
theorem n55 : N55 R := ⟨h55, n63⟩
theorem h46 : R.Fn 46 c46 := ⟨by kernel_rfl⟩
theorem n46 : N46 R := ⟨h46, n42, n55⟩
theorem h47 : R.Fn 47 c47 := ⟨by kernel_rfl⟩
theorem n47 : N47 R := ⟨h47⟩
theorem h44 : R.Fn 44 c44 := ⟨by kernel_rfl⟩
theorem n44 : N44 R := ⟨h44, n43, n45, n46, n47⟩
theorem h56 : R.Fn 56 c56 := ⟨by kernel_rfl⟩
theorem n56 : N56 R := ⟨h56, n62⟩
theorem h64 : R.Fn 64 c64 := ⟨by kernel_rfl⟩
theorem n64 : N64 R := ⟨h64⟩
theorem h59 : R.Fn 59 c59 := ⟨by kernel_rfl⟩
theorem n59 : N59 R := ⟨h59, n64⟩
theorem h57 : R.Fn 57 c57 := ⟨by kernel_rfl⟩
theorem n57 : N57 R := ⟨h57, n59⟩
theorem h58 : R.Fn 58 c58 := ⟨by kernel_rfl⟩
theorem n58 : N58 R := ⟨h58, n57⟩
theorem h65 : R.Fn 65 c65 := ⟨by kernel_rfl⟩
theorem n65 : N65 R := ⟨h65, n64⟩
theorem h60 : R.Fn 60 c60 := ⟨by kernel_rfl⟩
theorem n60 : N60 R := ⟨h60, n65⟩
theorem h49 : R.Fn 49 c49 := ⟨by kernel_rfl⟩
theorem n49 : N49 R := ⟨h49, n41, n56, n57, n58, n59, n60⟩
theorem h66 : R.Fn 66 c66 := ⟨by kernel_rfl⟩
theorem n66 : N66 R := ⟨h66⟩
theorem h61 : R.Fn 61 c61 := ⟨by kernel_rfl⟩
theorem n61 : N61 R := ⟨h61, n66⟩
theorem h50 : R.Fn 50 c50 := ⟨by kernel_rfl⟩
theorem n50 : N50 R := ⟨h50, n42, n61⟩
theorem h48 : R.Fn 48 c48 := ⟨by kernel_rfl⟩
theorem n48 : N48 R := ⟨h48, n43, n49, n50⟩
theorem h51 : R.Fn 51 c51 := ⟨by kernel_rfl⟩
theorem n51 : N51 R := ⟨h51, n41, n43, n45, n47, n49, n52⟩
theorem h53 : R.Fn 53 c53 := ⟨by kernel_rfl⟩
theorem n53 : N53 R := ⟨h53, n43, n45, n47, n49⟩
end Go.Proofs.Ytalgmieplcamcaa
