/- The program, as the machine has it: its types, its numbers, its functions. -/
import Derived.Test.YtfkakbaimadicaaU0
import Derived.Test.YtfkakbaimadicaaProg
namespace Go.Proofs.Ytfkakbaimadicaa
open Go.AM Go.UM
noncomputable def tt : TT := ttL
  [.tup,
   .func,
   .int .i64,
   .int .i64,
   .bool,
   .int .u8,
   .int .u8,
   .struct [(0, 2), (1, 3), (2, 4), (3, 6)],
   .struct [(0, 2), (1, 3), (2, 4), (3, 6)],
   .str,
   .str,
   .str,
   .int .u64,
   .struct [(0, 9), (1, 12)],
   .struct [(0, 9), (1, 12)],
   .ptr 57,
   .ptr 60,
   .ptr 69,
   .struct [(0, 17)],
   .struct [(0, 17)],
   .iface,
   .int .i32,
   .slice 5,
   .slice 30,
   .int .i64,
   .tup,
   .func,
   .tup,
   .func,
   .slice 3,
   .int .u64,
   .func,
   .func,
   .func,
   .func,
   .func,
   .func,
   .slice 46,
   .ptr 44,
   .func,
   .ptr 42,
   .struct [(0, 22), (1, 3), (2, 3)],
   .struct [(0, 22), (1, 3), (2, 3)],
   .struct [(0, 22), (1, 24), (2, 4)],
   .struct [(0, 22), (1, 24), (2, 4)],
   .struct [(0, 3), (1, 3)],
   .struct [(0, 3), (1, 3)],
   .func,
   .func,
   .func,
   .func,
   .func,
   .func,
   .func,
   .func,
   .func,
   .struct [(0, 17), (1, 17), (2, 17), (3, 9)],
   .struct [(0, 17), (1, 17), (2, 17), (3, 9)],
   .arr 0 16,
   .struct [(0, 58)],
   .struct [(0, 58)],
   .int .u32,
   .int .u8,
   .int .u8,
   .func,
   .ptr 5,
   .int .i32,
   .int .i32,
   .struct [(0, 12), (1, 12), (2, 61), (3, 62), (4, 5), (5, 5), (6, 63), (7, 64), (8, 65), (9, 66), (10, 67)],
   .struct [(0, 12), (1, 12), (2, 61), (3, 62), (4, 5), (5, 5), (6, 63), (7, 64), (8, 65), (9, 66), (10, 67)],
   .other]
  [1, 1, 1, 1, 1, 1, 1, 4, 4, 1, 1, 1, 1, 2, 2, 1, 1, 1, 1, 1, 1, 1, 1, 1, 1, 1, 1, 1, 1, 1, 1, 1, 1, 1, 1, 1, 1, 1, 1, 1, 1, 3, 3, 3, 3, 2, 2, 1, 1, 1, 1, 1, 1, 1, 1, 1, 4, 4, 0, 0, 0, 1, 1, 1, 1, 1, 1, 1, 11, 11, 1]
  [.tup [],
   .nilf,
   .int .i64 0,
   .int .i64 0,
   .bool false,
   .int .u8 0,
   .int .u8 0,
   .agg [.int .i64 0, .int .i64 0, .bool false, .int .u8 0],
   .agg [.int .i64 0, .int .i64 0, .bool false, .int .u8 0],
   .str [],
   .str [],
   .str [],
   .int .u64 0,
   .agg [.str [], .int .u64 0],
   .agg [.str [], .int .u64 0],
   .nilp,
   .nilp,
   .nilp,
   .agg [.nilp],
   .agg [.nilp],
   .nili,
   .int .i32 0,
   .nils,
   .nils,
   .int .i64 0,
   .tup [.nils, .int .i64 0],
   .nilf,
   .tup [.nils, .int .i64 0],
   .nilf,
   .nils,
   .int .u64 0,
   .nilf,
   .nilf,
   .nilf,
   .nilf,
   .nilf,
   .nilf,
   .nils,
   .nilp,
   .nilf,
   .nilp,
   .agg [.nils, .int .i64 0, .int .i64 0],
   .agg [.nils, .int .i64 0, .int .i64 0],
   .agg [.nils, .int .i64 0, .bool false],
   .agg [.nils, .int .i64 0, .bool false],
   .agg [.int .i64 0, .int .i64 0],
   .agg [.int .i64 0, .int .i64 0],
   .nilf,
   .nilf,
   .nilf,
   .nilf,
   .nilf,
   .nilf,
   .nilf,
   .nilf,
   .nilf,
   .agg [.nilp, .nilp, .nilp, .str []],
   .agg [.nilp, .nilp, .nilp, .str []],
   .agg [],
   .agg [],
   .agg [],
   .int .u32 0,
   .int .u8 0,
   .int .u8 0,
   .nilf,
   .nilp,
   .int .i32 0,
   .int .i32 0,
   .agg [.int .u64 0, .int .u64 0, .int .u32 0, .int .u8 0, .int .u8 0, .int .u8 0, .int .u8 0, .nilf, .nilp, .int .i32 0, .int .i32 0],
   .agg [.int .u64 0, .int .u64 0, .int .u32 0, .int .u8 0, .int .u8 0, .int .u8 0, .int .u8 0, .nilf, .nilp, .int .i32 0, .int .i32 0],
   .nilp]
theorem hT : PT Try.prog tt := ⟨ttL_ok 71 (by kernel_rfl) (by kernel_rfl) (by kernel_rfl), by kernel_rfl⟩
def ftl : List (Nat × Nat) := [(47, 11), (54, 7), (55, 8), (56, 13), (57, 14), (59, 18), (60, 23), (61, 15), (62, 25), (63, 26), (64, 27), (65, 22), (66, 19), (68, 20), (69, 24), (70, 3), (71, 9), (72, 10), (73, 12), (74, 4), (75, 5), (76, 16), (77, 17), (78, 21), (79, 6)]
def tyl : List (Nat × Nat) := [(0, 61), (4, 5), (6, 30), (8, 42), (9, 44), (10, 3), (11, 46), (22, 29), (23, 9)]
noncomputable def R : Env := { P := Try.prog, T := tt, ok := hT, ft := lkp ftl, ty := lkp tyl }
theorem h47 : R.Fn 47 c47 := ⟨by kernel_rfl⟩
theorem n47 : N47 R := ⟨h47⟩
theorem h62 : R.Fn 62 c62 := ⟨by kernel_rfl⟩
theorem n62 : N62 R := ⟨h62⟩
theorem h54 : R.Fn 54 c54 := ⟨by kernel_rfl⟩
theorem n54 : N54 R := ⟨h54, n62⟩
theorem h63 : R.Fn 63 c63 := ⟨by kernel_rfl⟩
theorem n63 : N63 R := ⟨h63⟩
theorem h55 : R.Fn 55 c55 := ⟨by kernel_rfl⟩
theorem n55 : N55 R := ⟨h55, n63⟩
theorem h56 : R.Fn 56 c56 := ⟨by kernel_rfl⟩
theorem n56 : N56 R := ⟨h56, n62⟩
theorem h64 : R.Fn 64 c64 := ⟨by kernel_rfl⟩
theorem n64 : N64 R := ⟨h64⟩
theorem h59 : R.Fn 59 c59 := ⟨by kernel_rfl⟩
theorem n59 : N59 R := ⟨h59, n64⟩
theorem h57 : R.Fn 57 c57 := ⟨by kernel_rfl⟩
theorem n57 : N57 R := ⟨h57, n59⟩
theorem h65 : R.Fn 65 c65 := ⟨by kernel_rfl⟩
theorem n65 : N65 R := ⟨h65, n64⟩
theorem h60 : R.Fn 60 c60 := ⟨by kernel_rfl⟩
theorem n60 : N60 R := ⟨h60, n65⟩
theorem h66 : R.Fn 66 c66 := ⟨by kernel_rfl⟩
theorem n66 : N66 R := ⟨h66⟩
theorem h61 : R.Fn 61 c61 := ⟨by kernel_rfl⟩
theorem n61 : N61 R := ⟨h61, n66⟩
theorem h68 : R.Fn 68 c68 := ⟨by kernel_rfl⟩
theorem n68 : N68 R := ⟨h68, n64⟩
theorem h69 : R.Fn 69 c69 := ⟨by kernel_rfl⟩
theorem n69 : N69 R := ⟨h69⟩
theorem h71 : R.Fn 71 c71 := ⟨by kernel_rfl⟩
theorem n71 : N71 R := ⟨h71, n54⟩
theorem h72 : R.Fn 72 c72 := ⟨by kernel_rfl⟩
theorem n72 : N72 R := ⟨h72, n55, n63⟩
theorem h73 : R.Fn 73 c73 := ⟨by kernel_rfl⟩
theorem n73 : N73 R := ⟨h73, n47, n54, n71⟩
theorem h70 : R.Fn 70 c70 := ⟨by kernel_rfl⟩
theorem n70 : N70 R := ⟨h70, n47, n54, n55, n71, n72, n73⟩
theorem h74 : R.Fn 74 c74 := ⟨by kernel_rfl⟩
theorem n74 : N74 R := ⟨h74, n54, n73⟩
theorem h76 : R.Fn 76 c76 := ⟨by kernel_rfl⟩
theorem n76 : N76 R := ⟨h76, n57⟩
theorem h77 : R.Fn 77 c77 := ⟨by kernel_rfl⟩
theorem n77 : N77 R := ⟨h77, n61, n63⟩
theorem h78 : R.Fn 78 c78 := ⟨by kernel_rfl⟩
theorem n78 : N78 R := ⟨h78⟩
theorem h75 : R.Fn 75 c75 := ⟨by kernel_rfl⟩
theorem n75 : N75 R := ⟨h75, n47, n56, n57, n59, n60, n61, n65, n66, n68, n69, n73, n76, n77, n78⟩
theorem h79 : R.Fn 79 c79 := ⟨by kernel_rfl⟩
theorem n79 : N79 R := ⟨h79, n54, n56, n57, n60, n65, n68, n71, n73, n76⟩
end Go.Proofs.Ytfkakbaimadicaa
