/- The program, as the machine has it: its types, its numbers, its functions. -/
import Derived.Test.YthdjcmppfpiimaaU0
import Derived.Test.YthdjcmppfpiimaaProg
namespace Go.Proofs.Ythdjcmppfpiimaa
open Go.AM Go.UM
noncomputable def tt : TT := ttL
  [.tup,
   .func,
   .int .i64,
   .int .i64,
   .bool,
   .int .u8,
   .int .u8,
   .struct [(0, 2), (1, 3), (2, 4), (3, 6)],
   .struct [(0, 2), (1, 3), (2, 4), (3, 6)],
   .str,
   .str,
   .str,
   .int .u64,
   .struct [(0, 9), (1, 12)],
   .struct [(0, 9), (1, 12)],
   .ptr 47,
   .ptr 50,
   .ptr 59,
   .struct [(0, 17)],
   .struct [(0, 17)],
   .iface,
   .int .i32,
   .slice 23,
   .int .u32,
   .func,
   .func,
   .func,
   .func,
   .func,
   .func,
   .arr 8 5,
   .func,
   .func,
   .slice 38,
   .tup,
   .func,
   .int .u64,
   .struct [(0, 36), (1, 3), (2, 23), (3, 30), (11, 23), (12, 23), (13, 3), (14, 3)],
   .struct [(0, 36), (1, 3), (2, 23), (3, 30), (11, 23), (12, 23), (13, 3), (14, 3)],
   .func,
   .func,
   .func,
   .arr 2 23,
   .func,
   .func,
   .func,
   .struct [(0, 17), (1, 17), (2, 17), (3, 9)],
   .struct [(0, 17), (1, 17), (2, 17), (3, 9)],
   .arr 0 16,
   .struct [(0, 48)],
   .struct [(0, 48)],
   .func,
   .int .u8,
   .int .u8,
   .func,
   .ptr 5,
   .int .i32,
   .int .i32,
   .struct [(0, 12), (1, 12), (2, 23), (3, 52), (4, 5), (5, 5), (6, 53), (7, 54), (8, 55), (9, 56), (10, 57)],
   .struct [(0, 12), (1, 12), (2, 23), (3, 52), (4, 5), (5, 5), (6, 53), (7, 54), (8, 55), (9, 56), (10, 57)],
   .other]
  [1, 1, 1, 1, 1, 1, 1, 4, 4, 1, 1, 1, 1, 2, 2, 1, 1, 1, 1, 1, 1, 1, 1, 1, 1, 1, 1, 1, 1, 1, 8, 1, 1, 1, 1, 1, 1, 15, 15, 1, 1, 1, 2, 1, 1, 1, 4, 4, 0, 0, 0, 1, 1, 1, 1, 1, 1, 1, 11, 11, 1]
  [.tup [],
   .nilf,
   .int .i64 0,
   .int .i64 0,
   .bool false,
   .int .u8 0,
   .int .u8 0,
   .agg [.int .i64 0, .int .i64 0, .bool false, .int .u8 0],
   .agg [.int .i64 0, .int .i64 0, .bool false, .int .u8 0],
   .str [],
   .str [],
   .str [],
   .int .u64 0,
   .agg [.str [], .int .u64 0],
   .agg [.str [], .int .u64 0],
   .nilp,
   .nilp,
   .nilp,
   .agg [.nilp],
   .agg [.nilp],
   .nili,
   .int .i32 0,
   .nils,
   .int .u32 0,
   .nilf,
   .nilf,
   .nilf,
   .nilf,
   .nilf,
   .nilf,
   .agg [.int .u8 0, .int .u8 0, .int .u8 0, .int .u8 0, .int .u8 0, .int .u8 0, .int .u8 0, .int .u8 0],
   .nilf,
   .nilf,
   .nils,
   .tup [.int .u32 0, .int .u32 0],
   .nilf,
   .int .u64 0,
   .agg [.int .u64 0, .int .i64 0, .int .u32 0, .int .u8 0, .int .u8 0, .int .u8 0, .int .u8 0, .int .u8 0, .int .u8 0, .int .u8 0, .int .u8 0, .int .u32 0, .int .u32 0, .int .i64 0, .int .i64 0],
   .agg [.int .u64 0, .int .i64 0, .int .u32 0, .int .u8 0, .int .u8 0, .int .u8 0, .int .u8 0, .int .u8 0, .int .u8 0, .int .u8 0, .int .u8 0, .int .u32 0, .int .u32 0, .int .i64 0, .int .i64 0],
   .nilf,
   .nilf,
   .nilf,
   .agg [.int .u32 0, .int .u32 0],
   .nilf,
   .nilf,
   .nilf,
   .agg [.nilp, .nilp, .nilp, .str []],
   .agg [.nilp, .nilp, .nilp, .str []],
   .agg [],
   .agg [],
   .agg [],
   .nilf,
   .int .u8 0,
   .int .u8 0,
   .nilf,
   .nilp,
   .int .i32 0,
   .int .i32 0,
   .agg [.int .u64 0, .int .u64 0, .int .u32 0, .int .u8 0, .int .u8 0, .int .u8 0, .int .u8 0, .nilf, .nilp, .int .i32 0, .int .i32 0],
   .agg [.int .u64 0, .int .u64 0, .int .u32 0, .int .u8 0, .int .u8 0, .int .u8 0, .int .u8 0, .nilf, .nilp, .int .i32 0, .int .i32 0],
   .nilp]
theorem hT : PT Try.prog tt := ⟨ttL_ok 61 (by kernel_rfl) (by kernel_rfl) (by kernel_rfl), by kernel_rfl⟩
def ftl : List (Nat × Nat) := [(3, 3), (4, 8), (5, 9), (6, 10), (7, 11), (8, 4), (9, 5), (10, 6), (11, 12), (12, 13), (13, 7), (14, 14), (15, 15), (16, 16), (17, 17), (18, 18), (19, 19)]
def tyl : List (Nat × Nat) := [(0, 23), (1, 30), (2, 38), (3, 42), (4, 5), (6, 36), (10, 3), (23, 9)]
noncomputable def R : Env := { P := Try.prog, T := tt, ok := hT, ft := lkp ftl, ty := lkp tyl }
theorem h16 : R.Fn 16 c16 := ⟨by kernel_rfl⟩
theorem n16 : N16 R := ⟨h16⟩
theorem h17 : R.Fn 17 c17 := ⟨by kernel_rfl⟩
theorem n17 : N17 R := ⟨h17⟩
theorem h4 : R.Fn 4 c4 := ⟨by kernel_rfl⟩
theorem n4 : N4 R := ⟨h4, n16, n17⟩
theorem h5 : R.Fn 5 c5 := ⟨by kernel_rfl⟩
theorem n5 : N5 R := ⟨h5⟩
theorem h6 : R.Fn 6 c6 := ⟨by kernel_rfl⟩
theorem n6 : N6 R := ⟨h6⟩
theorem h7 : R.Fn 7 c7 := ⟨by kernel_rfl⟩
theorem n7 : N7 R := ⟨h7, n4, n6⟩
theorem h3 : R.Fn 3 c3 := ⟨by kernel_rfl⟩
theorem n3 : N3 R := ⟨h3, n4, n5, n6, n7⟩
theorem h8 : R.Fn 8 c8 := ⟨by kernel_rfl⟩
theorem n8 : N8 R := ⟨h8, n4, n6, n7⟩
theorem h9 : R.Fn 9 c9 := ⟨by kernel_rfl⟩
theorem n9 : N9 R := ⟨h9, n4, n7⟩
theorem h11 : R.Fn 11 c11 := ⟨by kernel_rfl⟩
theorem n11 : N11 R := ⟨h11⟩
theorem h12 : R.Fn 12 c12 := ⟨by kernel_rfl⟩
theorem n12 : N12 R := ⟨h12, n11⟩
theorem h10 : R.Fn 10 c10 := ⟨by kernel_rfl⟩
theorem n10 : N10 R := ⟨h10, n7, n11, n12⟩
theorem h18 : R.Fn 18 c18 := ⟨by kernel_rfl⟩
theorem n18 : N18 R := ⟨h18⟩
theorem h19 : R.Fn 19 c19 := ⟨by kernel_rfl⟩
theorem n19 : N19 R := ⟨h19⟩
theorem h14 : R.Fn 14 c14 := ⟨by kernel_rfl⟩
theorem n14 : N14 R := ⟨h14, n18, n19⟩
theorem h15 : R.Fn 15 c15 := ⟨by kernel_rfl⟩
theorem n15 : N15 R := ⟨h15⟩
theorem h13 : R.Fn 13 c13 := ⟨by kernel_rfl⟩
theorem n13 : N13 R := ⟨h13, n7, n14, n15⟩
end Go.Proofs.Ythdjcmppfpiimaa
