/- The program, as the machine has it. -/
import Derived.Test.YtahjfplikclhlaaGreatU0
import Derived.Test.YtahjfplikclhlaaGreatProg
namespace Go.Proofs.YtahjfplikclhlaaGreat
open Go.AM Go.UM
noncomputable def tt : TT := ttL
  [.tup,
   .func,
   .int .i64,
   .int .i64,
   .bool,
   .int .u8,
   .int .u8,
   .struct [(0, 2), (1, 3), (2, 4), (3, 6)],
   .struct [(0, 2), (1, 3), (2, 4), (3, 6)],
   .str,
   .str,
   .str,
   .int .u64,
   .struct [(0, 9), (1, 12)],
   .struct [(0, 9), (1, 12)],
   .ptr 241,
   .ptr 244,
   .ptr 253,
   .struct [(0, 17)],
   .struct [(0, 17)],
   .iface,
   .int .i32,
   .slice 61,
   .ptr 85,
   .func,
   .slice 70,
   .func,
   .slice 59,
   .func,
   .int .i64,
   .func,
   .int .u64,
   .int .u32,
   .arr 8 5,
   .struct [(0, 31), (1, 3), (2, 32), (3, 33), (11, 32), (12, 32), (13, 3), (14, 3)],
   .struct [(0, 31), (1, 3), (2, 32), (3, 33), (11, 32), (12, 32), (13, 3), (14, 3)],
   .slice 47,
   .slice 118,
   .slice 43,
   .struct [(0, 36), (1, 37), (2, 38)],
   .struct [(0, 36), (1, 37), (2, 38)],
   .struct [(0, 3), (1, 38)],
   .struct [(0, 3), (1, 38)],
   .arr 3 3,
   .struct [(0, 3), (1, 43), (4, 3)],
   .struct [(0, 3), (1, 43), (4, 3)],
   .struct [(0, 3), (1, 3), (2, 3)],
   .struct [(0, 3), (1, 3), (2, 3)],
   .struct [(0, 3), (1, 43), (4, 47), (7, 47), (10, 47)],
   .struct [(0, 3), (1, 43), (4, 47), (7, 47), (10, 47)],
   .struct [(0, 3), (1, 40), (4, 42), (6, 45), (11, 49)],
   .struct [(0, 3), (1, 40), (4, 42), (6, 45), (11, 49)],
   .int .i64,
   .arr 9 52,
   .struct [(0, 52), (1, 52), (2, 52)],
   .struct [(0, 52), (1, 52), (2, 52)],
   .struct [(0, 53), (9, 55)],
   .struct [(0, 53), (9, 55)],
   .struct [(0, 3), (1, 3), (2, 3), (3, 3), (4, 57)],
   .struct [(0, 3), (1, 3), (2, 3), (3, 3), (4, 57)],
   .struct [(0, 3), (1, 3), (2, 35), (17, 51), (41, 59)],
   .struct [(0, 3), (1, 3), (2, 35), (17, 51), (41, 59)],
   .func,
   .func,
   .func,
   .func,
   .func,
   .func,
   .map 3 51,
   .struct [(0, 3), (1, 35), (16, 51)],
   .struct [(0, 3), (1, 35), (16, 51)],
   .tup,
   .func,
   .func,
   .func,
   .func,
   .ptr 78,
   .struct [(0, 25), (1, 27)],
   .struct [(0, 25), (1, 27)],
   .func,
   .func,
   .func,
   .map 3 70,
   .map 93 57,
   .struct [(0, 82), (1, 83)],
   .struct [(0, 82), (1, 83)],
   .slice 3,
   .func,
   .func,
   .func,
   .func,
   .func,
   .struct [(0, 3), (1, 3), (2, 3), (3, 3)],
   .struct [(0, 3), (1, 3), (2, 3), (3, 3)],
   .func,
   .func,
   .func,
   .func,
   .func,
   .func,
   .func,
   .func,
   .func,
   .func,
   .tup,
   .tup,
   .func,
   .func,
   .func,
   .func,
   .func,
   .func,
   .func,
   .func,
   .func,
   .func,
   .func,
   .func,
   .arr 2 3,
   .func,
   .func,
   .func,
   .int .u64,
   .func,
   .func,
   .func,
   .func,
   .func,
   .func,
   .func,
   .func,
   .func,
   .func,
   .slice 5,
   .func,
   .func,
   .tup,
   .func,
   .func,
   .func,
   .func,
   .func,
   .int .i64,
   .tup,
   .func,
   .func,
   .func,
   .tup,
   .func,
   .func,
   .func,
   .slice 55,
   .func,
   .func,
   .func,
   .func,
   .func,
   .func,
   .struct [(0, 2), (1, 31)],
   .struct [(0, 2), (1, 31)],
   .func,
   .func,
   .func,
   .func,
   .func,
   .func,
   .func,
   .func,
   .tup,
   .func,
   .func,
   .func,
   .func,
   .arr 5 3,
   .func,
   .func,
   .func,
   .func,
   .func,
   .func,
   .func,
   .func,
   .func,
   .func,
   .func,
   .func,
   .func,
   .func,
   .int .u64,
   .func,
   .func,
   .func,
   .ptr 3,
   .func,
   .slice 52,
   .tup,
   .func,
   .tup,
   .func,
   .tup,
   .func,
   .tup,
   .func,
   .func,
   .func,
   .func,
   .func,
   .func,
   .func,
   .func,
   .func,
   .slice 31,
   .func,
   .func,
   .tup,
   .func,
   .func,
   .func,
   .func,
   .func,
   .func,
   .func,
   .ptr 188,
   .tup,
   .func,
   .func,
   .func,
   .func,
   .func,
   .func,
   .func,
   .func,
   .func,
   .func,
   .func,
   .func,
   .func,
   .func,
   .func,
   .func,
   .struct [(0, 17), (1, 17), (2, 17), (3, 9)],
   .struct [(0, 17), (1, 17), (2, 17), (3, 9)],
   .arr 0 16,
   .struct [(0, 242)],
   .struct [(0, 242)],
   .func,
   .int .u8,
   .int .u8,
   .func,
   .ptr 5,
   .int .i32,
   .int .i32,
   .struct [(0, 12), (1, 12), (2, 32), (3, 246), (4, 5), (5, 5), (6, 247), (7, 248), (8, 249), (9, 250), (10, 251)],
   .struct [(0, 12), (1, 12), (2, 32), (3, 246), (4, 5), (5, 5), (6, 247), (7, 248), (8, 249), (9, 250), (10, 251)],
   .other]
  [1, 1, 1, 1, 1, 1, 1, 4, 4, 1, 1, 1, 1, 2, 2, 1, 1, 1, 1, 1, 1, 1, 1, 1, 1, 1, 1, 1, 1, 1, 1, 1, 1, 8, 15, 15, 1, 1, 1, 3, 3, 2, 2, 3, 5, 5, 3, 3, 13, 13, 24, 24, 1, 9, 3, 3, 12, 12, 16, 16, 57, 57, 1, 1, 1, 1, 1, 1, 1, 40, 40, 1, 1, 1, 1, 1, 1, 2, 2, 1, 1, 1, 1, 1, 2, 2, 1, 1, 1, 1, 1, 1, 4, 4, 1, 1, 1, 1, 1, 1, 1, 1, 1, 1, 1, 1, 1, 1, 1, 1, 1, 1, 1, 1, 1, 1, 1, 1, 2, 1, 1, 1, 1, 1, 1, 1, 1, 1, 1, 1, 1, 1, 1, 1, 1, 1, 1, 1, 1, 1, 1, 1, 1, 1, 1, 1, 1, 1, 1, 1, 1, 1, 1, 1, 1, 1, 1, 1, 2, 2, 1, 1, 1, 1, 1, 1, 1, 1, 1, 1, 1, 1, 1, 5, 1, 1, 1, 1, 1, 1, 1, 1, 1, 1, 1, 1, 1, 1, 1, 1, 1, 1, 1, 1, 1, 1, 1, 1, 1, 1, 1, 1, 1, 1, 1, 1, 1, 1, 1, 1, 1, 1, 1, 1, 1, 1, 1, 1, 1, 1, 1, 1, 1, 1, 1, 1, 1, 1, 1, 1, 1, 1, 1, 1, 1, 1, 1, 1, 1, 1, 4, 4, 0, 0, 0, 1, 1, 1, 1, 1, 1, 1, 11, 11, 1]
  [.tup [],
   .nilf,
   .int .i64 0,
   .int .i64 0,
   .bool false,
   .int .u8 0,
   .int .u8 0,
   .agg [.int .i64 0, .int .i64 0, .bool false, .int .u8 0],
   .agg [.int .i64 0, .int .i64 0, .bool false, .int .u8 0],
   .str [],
   .str [],
   .str [],
   .int .u64 0,
   .agg [.str [], .int .u64 0],
   .agg [.str [], .int .u64 0],
   .nilp,
   .nilp,
   .nilp,
   .agg [.nilp],
   .agg [.nilp],
   .nili,
   .int .i32 0,
   .nils,
   .nilp,
   .nilf,
   .nils,
   .nilf,
   .nils,
   .nilf,
   .int .i64 0,
   .nilf,
   .int .u64 0,
   .int .u32 0,
   .agg [.int .u8 0, .int .u8 0, .int .u8 0, .int .u8 0, .int .u8 0, .int .u8 0, .int .u8 0, .int .u8 0],
   .agg [.int .u64 0, .int .i64 0, .int .u32 0, .int .u8 0, .int .u8 0, .int .u8 0, .int .u8 0, .int .u8 0, .int .u8 0, .int .u8 0, .int .u8 0, .int .u32 0, .int .u32 0, .int .i64 0, .int .i64 0],
   .agg [.int .u64 0, .int .i64 0, .int .u32 0, .int .u8 0, .int .u8 0, .int .u8 0, .int .u8 0, .int .u8 0, .int .u8 0, .int .u8 0, .int .u8 0, .int .u32 0, .int .u32 0, .int .i64 0, .int .i64 0],
   .nils,
   .nils,
   .nils,
   .agg [.nils, .nils, .nils],
   .agg [.nils, .nils, .nils],
   .agg [.int .i64 0, .nils],
   .agg [.int .i64 0, .nils],
   .agg [.int .i64 0, .int .i64 0, .int .i64 0],
   .agg [.int .i64 0, .int .i64 0, .int .i64 0, .int .i64 0, .int .i64 0],
   .agg [.int .i64 0, .int .i64 0, .int .i64 0, .int .i64 0, .int .i64 0],
   .agg [.int .i64 0, .int .i64 0, .int .i64 0],
   .agg [.int .i64 0, .int .i64 0, .int .i64 0],
   .agg [.int .i64 0, .int .i64 0, .int .i64 0, .int .i64 0, .int .i64 0, .int .i64 0, .int .i64 0, .int .i64 0, .int .i64 0, .int .i64 0, .int .i64 0, .int .i64 0, .int .i64 0],
   .agg [.int .i64 0, .int .i64 0, .int .i64 0, .int .i64 0, .int .i64 0, .int .i64 0, .int .i64 0, .int .i64 0, .int .i64 0, .int .i64 0, .int .i64 0, .int .i64 0, .int .i64 0],
   .agg [.int .i64 0, .nils, .nils, .nils, .int .i64 0, .nils, .int .i64 0, .int .i64 0, .int .i64 0, .int .i64 0, .int .i64 0, .int .i64 0, .int .i64 0, .int .i64 0, .int .i64 0, .int .i64 0, .int .i64 0, .int .i64 0, .int .i64 0, .int .i64 0, .int .i64 0, .int .i64 0, .int .i64 0, .int .i64 0],
   .agg [.int .i64 0, .nils, .nils, .nils, .int .i64 0, .nils, .int .i64 0, .int .i64 0, .int .i64 0, .int .i64 0, .int .i64 0, .int .i64 0, .int .i64 0, .int .i64 0, .int .i64 0, .int .i64 0, .int .i64 0, .int .i64 0, .int .i64 0, .int .i64 0, .int .i64 0, .int .i64 0, .int .i64 0, .int .i64 0],
   .int .i64 0,
   .agg [.int .i64 0, .int .i64 0, .int .i64 0, .int .i64 0, .int .i64 0, .int .i64 0, .int .i64 0, .int .i64 0, .int .i64 0],
   .agg [.int .i64 0, .int .i64 0, .int .i64 0],
   .agg [.int .i64 0, .int .i64 0, .int .i64 0],
   .agg [.int .i64 0, .int .i64 0, .int .i64 0, .int .i64 0, .int .i64 0, .int .i64 0, .int .i64 0, .int .i64 0, .int .i64 0, .int .i64 0, .int .i64 0, .int .i64 0],
   .agg [.int .i64 0, .int .i64 0, .int .i64 0, .int .i64 0, .int .i64 0, .int .i64 0, .int .i64 0, .int .i64 0, .int .i64 0, .int .i64 0, .int .i64 0, .int .i64 0],
   .agg [.int .i64 0, .int .i64 0, .int .i64 0, .int .i64 0, .int .i64 0, .int .i64 0, .int .i64 0, .int .i64 0, .int .i64 0, .int .i64 0, .int .i64 0, .int .i64 0, .int .i64 0, .int .i64 0, .int .i64 0, .int .i64 0],
   .agg [.int .i64 0, .int .i64 0, .int .i64 0, .int .i64 0, .int .i64 0, .int .i64 0, .int .i64 0, .int .i64 0, .int .i64 0, .int .i64 0, .int .i64 0, .int .i64 0, .int .i64 0, .int .i64 0, .int .i64 0, .int .i64 0],
   .agg [.int .i64 0, .int .i64 0, .int .u64 0, .int .i64 0, .int .u32 0, .int .u8 0, .int .u8 0, .int .u8 0, .int .u8 0, .int .u8 0, .int .u8 0, .int .u8 0, .int .u8 0, .int .u32 0, .int .u32 0, .int .i64 0, .int .i64 0, .int .i64 0, .nils, .nils, .nils, .int .i64 0, .nils, .int .i64 0, .int .i64 0, .int .i64 0, .int .i64 0, .int .i64 0, .int .i64 0, .int .i64 0, .int .i64 0, .int .i64 0, .int .i64 0, .int .i64 0, .int .i64 0, .int .i64 0, .int .i64 0, .int .i64 0, .int .i64 0, .int .i64 0, .int .i64 0, .int .i64 0, .int .i64 0, .int .i64 0, .int .i64 0, .int .i64 0, .int .i64 0, .int .i64 0, .int .i64 0, .int .i64 0, .int .i64 0, .int .i64 0, .int .i64 0, .int .i64 0, .int .i64 0, .int .i64 0, .int .i64 0],
   .agg [.int .i64 0, .int .i64 0, .int .u64 0, .int .i64 0, .int .u32 0, .int .u8 0, .int .u8 0, .int .u8 0, .int .u8 0, .int .u8 0, .int .u8 0, .int .u8 0, .int .u8 0, .int .u32 0, .int .u32 0, .int .i64 0, .int .i64 0, .int .i64 0, .nils, .nils, .nils, .int .i64 0, .nils, .int .i64 0, .int .i64 0, .int .i64 0, .int .i64 0, .int .i64 0, .int .i64 0, .int .i64 0, .int .i64 0, .int .i64 0, .int .i64 0, .int .i64 0, .int .i64 0, .int .i64 0, .int .i64 0, .int .i64 0, .int .i64 0, .int .i64 0, .int .i64 0, .int .i64 0, .int .i64 0, .int .i64 0, .int .i64 0, .int .i64 0, .int .i64 0, .int .i64 0, .int .i64 0, .int .i64 0, .int .i64 0, .int .i64 0, .int .i64 0, .int .i64 0, .int .i64 0, .int .i64 0, .int .i64 0],
   .nilf,
   .nilf,
   .nilf,
   .nilf,
   .nilf,
   .nilf,
   .nilm,
   .agg [.int .i64 0, .int .u64 0, .int .i64 0, .int .u32 0, .int .u8 0, .int .u8 0, .int .u8 0, .int .u8 0, .int .u8 0, .int .u8 0, .int .u8 0, .int .u8 0, .int .u32 0, .int .u32 0, .int .i64 0, .int .i64 0, .int .i64 0, .nils, .nils, .nils, .int .i64 0, .nils, .int .i64 0, .int .i64 0, .int .i64 0, .int .i64 0, .int .i64 0, .int .i64 0, .int .i64 0, .int .i64 0, .int .i64 0, .int .i64 0, .int .i64 0, .int .i64 0, .int .i64 0, .int .i64 0, .int .i64 0, .int .i64 0, .int .i64 0, .int .i64 0],
   .agg [.int .i64 0, .int .u64 0, .int .i64 0, .int .u32 0, .int .u8 0, .int .u8 0, .int .u8 0, .int .u8 0, .int .u8 0, .int .u8 0, .int .u8 0, .int .u8 0, .int .u32 0, .int .u32 0, .int .i64 0, .int .i64 0, .int .i64 0, .nils, .nils, .nils, .int .i64 0, .nils, .int .i64 0, .int .i64 0, .int .i64 0, .int .i64 0, .int .i64 0, .int .i64 0, .int .i64 0, .int .i64 0, .int .i64 0, .int .i64 0, .int .i64 0, .int .i64 0, .int .i64 0, .int .i64 0, .int .i64 0, .int .i64 0, .int .i64 0, .int .i64 0],
   .tup [.bad, .int .i64 0],
   .nilf,
   .nilf,
   .nilf,
   .nilf,
   .nilp,
   .agg [.nils, .nils],
   .agg [.nils, .nils],
   .nilf,
   .nilf,
   .nilf,
   .nilm,
   .nilm,
   .agg [.nilm, .nilm],
   .agg [.nilm, .nilm],
   .nils,
   .nilf,
   .nilf,
   .nilf,
   .nilf,
   .nilf,
   .agg [.int .i64 0, .int .i64 0, .int .i64 0, .int .i64 0],
   .agg [.int .i64 0, .int .i64 0, .int .i64 0, .int .i64 0],
   .nilf,
   .nilf,
   .nilf,
   .nilf,
   .nilf,
   .nilf,
   .nilf,
   .nilf,
   .nilf,
   .nilf,
   .tup [.bad, .bool false],
   .tup [.bad, .bool false],
   .nilf,
   .nilf,
   .nilf,
   .nilf,
   .nilf,
   .nilf,
   .nilf,
   .nilf,
   .nilf,
   .nilf,
   .nilf,
   .nilf,
   .agg [.int .i64 0, .int .i64 0],
   .nilf,
   .nilf,
   .nilf,
   .int .u64 0,
   .nilf,
   .nilf,
   .nilf,
   .nilf,
   .nilf,
   .nilf,
   .nilf,
   .nilf,
   .nilf,
   .nilf,
   .nils,
   .nilf,
   .nilf,
   .tup [.bad, .int .i64 0],
   .nilf,
   .nilf,
   .nilf,
   .nilf,
   .nilf,
   .int .i64 0,
   .tup [.int .i64 0, .int .i64 0],
   .nilf,
   .nilf,
   .nilf,
   .tup [.int .i64 0, .bool false],
   .nilf,
   .nilf,
   .nilf,
   .nils,
   .nilf,
   .nilf,
   .nilf,
   .nilf,
   .nilf,
   .nilf,
   .agg [.int .i64 0, .int .u64 0],
   .agg [.int .i64 0, .int .u64 0],
   .nilf,
   .nilf,
   .nilf,
   .nilf,
   .nilf,
   .nilf,
   .nilf,
   .nilf,
   .tup [.nils, .int .i64 0],
   .nilf,
   .nilf,
   .nilf,
   .nilf,
   .agg [.int .i64 0, .int .i64 0, .int .i64 0, .int .i64 0, .int .i64 0],
   .nilf,
   .nilf,
   .nilf,
   .nilf,
   .nilf,
   .nilf,
   .nilf,
   .nilf,
   .nilf,
   .nilf,
   .nilf,
   .nilf,
   .nilf,
   .nilf,
   .int .u64 0,
   .nilf,
   .nilf,
   .nilf,
   .nilp,
   .nilf,
   .nils,
   .tup [.int .i64 0, .bool false],
   .nilf,
   .tup [.int .u64 0, .bool false],
   .nilf,
   .tup [.int .u64 0, .int .u64 0],
   .nilf,
   .tup [.bad, .bool false],
   .nilf,
   .nilf,
   .nilf,
   .nilf,
   .nilf,
   .nilf,
   .nilf,
   .nilf,
   .nilf,
   .nils,
   .nilf,
   .nilf,
   .tup [.nils, .int .i64 0],
   .nilf,
   .nilf,
   .nilf,
   .nilf,
   .nilf,
   .nilf,
   .nilf,
   .nilp,
   .tup [.int .i64 0, .int .i64 0],
   .nilf,
   .nilf,
   .nilf,
   .nilf,
   .nilf,
   .nilf,
   .nilf,
   .nilf,
   .nilf,
   .nilf,
   .nilf,
   .nilf,
   .nilf,
   .nilf,
   .nilf,
   .nilf,
   .agg [.nilp, .nilp, .nilp, .str []],
   .agg [.nilp, .nilp, .nilp, .str []],
   .agg [],
   .agg [],
   .agg [],
   .nilf,
   .int .u8 0,
   .int .u8 0,
   .nilf,
   .nilp,
   .int .i32 0,
   .int .i32 0,
   .agg [.int .u64 0, .int .u64 0, .int .u32 0, .int .u8 0, .int .u8 0, .int .u8 0, .int .u8 0, .nilf, .nilp, .int .i32 0, .int .i32 0],
   .agg [.int .u64 0, .int .u64 0, .int .u32 0, .int .u8 0, .int .u8 0, .int .u8 0, .int .u8 0, .nilf, .nilp, .int .i32 0, .int .i32 0],
   .nilp]
theorem hT : PT Tryz.prog tt := ⟨ttL_ok 255 (by kernel_rfl) (by kernel_rfl) (by kernel_rfl), by kernel_rfl⟩
def ftl : List (Nat × Nat) := [(37, 71), (38, 116), (54, 107), (55, 154), (62, 150), (63, 174), (71, 108), (72, 175), (82, 106), (83, 153), (84, 99), (85, 111), (89, 59), (100, 147), (101, 53), (106, 171), (191, 32), (193, 98), (196, 105), (197, 152), (198, 109), (204, 58), (206, 141), (207, 142), (208, 143), (209, 144), (210, 145), (211, 146), (212, 155), (213, 151), (217, 168), (218, 169), (219, 170), (231, 64), (232, 159), (233, 36), (234, 119), (235, 34), (236, 117), (241, 16), (242, 75), (243, 35), (244, 118), (246, 63), (248, 65), (249, 37), (251, 95), (252, 94), (253, 179), (254, 158), (255, 60), (256, 61), (257, 156), (259, 120), (260, 62), (261, 157), (262, 91), (263, 92), (264, 97), (265, 96), (266, 136), (267, 93), (268, 187), (269, 178), (270, 90), (271, 176), (272, 160), (273, 177), (274, 137), (275, 138), (276, 139), (277, 140), (278, 165), (279, 180), (280, 181), (281, 135), (282, 186), (283, 167), (284, 166), (285, 183), (286, 184), (287, 188), (290, 100), (291, 113), (292, 101), (293, 114), (294, 43), (295, 73), (298, 68), (299, 33), (307, 148), (308, 149), (309, 67), (310, 69), (311, 70), (312, 110), (313, 112), (314, 115), (315, 102), (316, 103), (317, 104), (322, 173), (323, 172), (324, 185), (343, 14), (345, 8), (346, 21), (347, 17), (355, 24), (356, 27), (357, 38), (358, 31), (361, 51), (362, 52), (404, 88), (417, 3), (418, 9), (419, 10), (420, 12), (421, 11), (422, 13), (423, 15), (424, 4), (425, 5), (426, 6), (427, 18), (428, 19), (429, 7), (430, 20), (431, 22), (432, 23), (433, 26), (434, 25), (435, 28), (436, 29), (437, 40), (438, 39), (439, 41), (440, 42), (441, 44), (442, 45), (443, 46), (444, 47), (445, 48), (446, 49), (447, 50), (448, 55), (449, 54), (450, 30), (451, 57), (452, 56), (454, 72), (455, 74), (456, 76), (457, 77), (458, 78), (459, 79), (460, 80), (461, 81), (462, 82), (463, 83), (464, 84), (465, 85), (466, 86), (467, 87), (468, 89), (469, 121), (470, 122), (471, 123), (472, 124), (473, 125), (474, 126), (475, 127), (476, 128), (477, 129), (478, 130), (479, 131), (480, 132), (481, 133), (482, 134), (483, 161), (484, 162), (485, 163), (486, 164), (487, 182)]
def tyl : List (Nat × Nat) := [(0, 32), (1, 33), (2, 35), (4, 5), (5, 173), (6, 31), (10, 3), (12, 42), (13, 43), (18, 118), (22, 86), (23, 9), (25, 40), (26, 47), (31, 55), (32, 52), (33, 57), (37, 53), (38, 159), (39, 51), (40, 45), (41, 49), (44, 59), (45, 70), (46, 4), (47, 85), (48, 25), (49, 93), (51, 133), (55, 61), (56, 78), (57, 82), (58, 188)]
noncomputable def R : Env := { P := Tryz.prog, T := tt, ok := hT, ft := lkp ftl, ty := lkp tyl }
theorem h37 : R.Fn 37 c37 := ⟨by kernel_rfl⟩
theorem n37 : N37 R := ⟨h37⟩
theorem h62 : R.Fn 62 c62 := ⟨by kernel_rfl⟩
theorem n62 : N62 R := ⟨h62⟩
theorem h54 : R.Fn 54 c54 := ⟨by kernel_rfl⟩
theorem n54 : N54 R := ⟨h54, n62⟩
theorem h63 : R.Fn 63 c63 := ⟨by kernel_rfl⟩
theorem h71 : R.Fn 71 c71 := ⟨by kernel_rfl⟩
theorem n71 : N71 R := ⟨h71, n54⟩
theorem h106 : R.Fn 106 c106 := ⟨by kernel_rfl⟩
theorem n106 : N106 R := ⟨h106⟩
theorem h100 : R.Fn 100 c100 := ⟨by kernel_rfl⟩
theorem n100 : N100 R := ⟨h100, n106⟩
theorem h84 : R.Fn 84 c84 := ⟨by kernel_rfl⟩
theorem n84 : N84 R := ⟨h84, n100⟩
theorem h82 : R.Fn 82 c82 := ⟨by kernel_rfl⟩
theorem n82 : N82 R := ⟨h82, n84⟩
theorem h89 : R.Fn 89 c89 := ⟨by kernel_rfl⟩
theorem n89 : N89 R := ⟨h89⟩
theorem h101 : R.Fn 101 c101 := ⟨by kernel_rfl⟩
theorem n101 : N101 R := ⟨h101⟩
theorem h191 : R.Fn 191 c191 := ⟨by kernel_rfl⟩
theorem n191 : N191 R := ⟨h191⟩
theorem h206 : R.Fn 206 c206 := ⟨by kernel_rfl⟩
theorem n206 : N206 R := ⟨h206⟩
theorem h207 : R.Fn 207 c207 := ⟨by kernel_rfl⟩
theorem n207 : N207 R := ⟨h207⟩
theorem h208 : R.Fn 208 c208 := ⟨by kernel_rfl⟩
theorem n208 : N208 R := ⟨h208⟩
theorem h217 : R.Fn 217 c217 := ⟨by kernel_rfl⟩
theorem n217 : N217 R := ⟨h217⟩
theorem h209 : R.Fn 209 c209 := ⟨by kernel_rfl⟩
theorem n209 : N209 R := ⟨h209, n217⟩
theorem h218 : R.Fn 218 c218 := ⟨by kernel_rfl⟩
theorem n218 : N218 R := ⟨h218⟩
theorem h210 : R.Fn 210 c210 := ⟨by kernel_rfl⟩
theorem n210 : N210 R := ⟨h210, n218⟩
theorem h219 : R.Fn 219 c219 := ⟨by kernel_rfl⟩
theorem n219 : N219 R := ⟨h219⟩
theorem h211 : R.Fn 211 c211 := ⟨by kernel_rfl⟩
theorem n211 : N211 R := ⟨h211, n219⟩
theorem h193 : R.Fn 193 c193 := ⟨by kernel_rfl⟩
theorem n193 : N193 R := ⟨h193, n206, n207, n208, n209, n210, n211⟩
theorem h196 : R.Fn 196 c196 := ⟨by kernel_rfl⟩
theorem n196 : N196 R := ⟨h196, n54, n71, n193⟩
theorem h204 : R.Fn 204 c204 := ⟨by kernel_rfl⟩
theorem n204 : N204 R := ⟨h204⟩
theorem h251 : R.Fn 251 c251 := ⟨by kernel_rfl⟩
theorem n251 : N251 R := ⟨h251⟩
theorem h262 : R.Fn 262 c262 := ⟨by kernel_rfl⟩
theorem n262 : N262 R := ⟨h262⟩
theorem h275 : R.Fn 275 c275 := ⟨by kernel_rfl⟩
theorem n275 : N275 R := ⟨h275⟩
theorem h276 : R.Fn 276 c276 := ⟨by kernel_rfl⟩
theorem n276 : N276 R := ⟨h276⟩
theorem h286 : R.Xn 286 "math/bits.Sub64" := ⟨by kernel_rfl⟩
theorem n286 : N286 R := ⟨h286⟩
theorem h283 : R.Fn 283 c283 := ⟨by kernel_rfl⟩
theorem n283 : N283 R := ⟨h283, n286⟩
theorem h277 : R.Fn 277 c277 := ⟨by kernel_rfl⟩
theorem n277 : N277 R := ⟨h277, n283⟩
theorem h264 : R.Fn 264 c264 := ⟨by kernel_rfl⟩
theorem n264 : N264 R := ⟨h264, n275, n276, n277⟩
theorem h274 : R.Fn 274 c274 := ⟨by kernel_rfl⟩
theorem n274 : N274 R := ⟨h274⟩
theorem h265 : R.Fn 265 c265 := ⟨by kernel_rfl⟩
theorem n265 : N265 R := ⟨h265, n274⟩
theorem h287 : R.Fn 287 c287 := ⟨by kernel_rfl⟩
theorem n287 : N287 R := ⟨h287⟩
theorem h285 : R.Fn 285 c285 := ⟨by kernel_rfl⟩
theorem n285 : N285 R := ⟨h285, n287⟩
theorem h284 : R.Fn 284 c284 := ⟨by kernel_rfl⟩
theorem n284 : N284 R := ⟨h284, n264, n265, n285⟩
theorem h278 : R.Fn 278 c278 := ⟨by kernel_rfl⟩
theorem n278 : N278 R := ⟨h278, n284⟩
theorem h266 : R.Fn 266 c266 := ⟨by kernel_rfl⟩
theorem n266 : N266 R := ⟨h266, n262, n278⟩
theorem h267 : R.Fn 267 c267 := ⟨by kernel_rfl⟩
theorem n267 : N267 R := ⟨h267⟩
theorem h252 : R.Fn 252 c252 := ⟨by kernel_rfl⟩
theorem n252 : N252 R := ⟨h252, n266, n267⟩
theorem h231 : R.Fn 231 c231 := ⟨by kernel_rfl⟩
theorem n231 : N231 R := ⟨h231, n251, n252⟩
theorem h263 : R.Fn 263 c263 := ⟨by kernel_rfl⟩
theorem n263 : N263 R := ⟨h263, n267⟩
theorem h246 : R.Fn 246 c246 := ⟨by kernel_rfl⟩
theorem n246 : N246 R := ⟨h246, n262, n263⟩
theorem h233 : R.Fn 233 c233 := ⟨by kernel_rfl⟩
theorem n233 : N233 R := ⟨h233, n231, n246⟩
theorem h281 : R.Fn 281 c281 := ⟨by kernel_rfl⟩
theorem n281 : N281 R := ⟨h281⟩
theorem h270 : R.Fn 270 c270 := ⟨by kernel_rfl⟩
theorem n270 : N270 R := ⟨h270, n281⟩
theorem h255 : R.Fn 255 c255 := ⟨by kernel_rfl⟩
theorem n255 : N255 R := ⟨h255, n270⟩
theorem h256 : R.Fn 256 c256 := ⟨by kernel_rfl⟩
theorem n256 : N256 R := ⟨h256, n255⟩
theorem h235 : R.Fn 235 c235 := ⟨by kernel_rfl⟩
theorem n235 : N235 R := ⟨h235, n255, n256⟩
theorem h260 : R.Fn 260 c260 := ⟨by kernel_rfl⟩
theorem n260 : N260 R := ⟨h260⟩
theorem h243 : R.Fn 243 c243 := ⟨by kernel_rfl⟩
theorem n243 : N243 R := ⟨h243, n260⟩
theorem h248 : R.Fn 248 c248 := ⟨by kernel_rfl⟩
theorem n248 : N248 R := ⟨h248, n264, n265⟩
theorem h249 : R.Fn 249 c249 := ⟨by kernel_rfl⟩
theorem n249 : N249 R := ⟨h249, n248⟩
theorem h241 : R.Fn 241 c241 := ⟨by kernel_rfl⟩
theorem n241 : N241 R := ⟨h241, n233, n235, n243, n249⟩
theorem h322 : R.Fn 322 c322 := ⟨by kernel_rfl⟩
theorem n322 : N322 R := ⟨h322⟩
theorem h324 : R.Fn 324 c324 := ⟨by kernel_rfl⟩
theorem n324 : N324 R := ⟨h324⟩
theorem h323 : R.Fn 323 c323 := ⟨by kernel_rfl⟩
theorem n323 : N323 R := ⟨h323, n324⟩
theorem h307 : R.Fn 307 c307 := ⟨by kernel_rfl⟩
theorem n307 : N307 R := ⟨h307, n322, n323⟩
theorem h290 : R.Fn 290 c290 := ⟨by kernel_rfl⟩
theorem n290 : N290 R := ⟨h290, n307⟩
theorem h308 : R.Fn 308 c308 := ⟨by kernel_rfl⟩
theorem n308 : N308 R := ⟨h308⟩
theorem h292 : R.Fn 292 c292 := ⟨by kernel_rfl⟩
theorem n292 : N292 R := ⟨h292, n307, n308⟩
theorem h315 : R.Fn 315 c315 := ⟨by kernel_rfl⟩
theorem n315 : N315 R := ⟨h315⟩
theorem h316 : R.Fn 316 c316 := ⟨by kernel_rfl⟩
theorem n316 : N316 R := ⟨h316⟩
theorem h317 : R.Fn 317 c317 := ⟨by kernel_rfl⟩
theorem n317 : N317 R := ⟨h317⟩
theorem h298 : R.Fn 298 c298 := ⟨by kernel_rfl⟩
theorem n298 : N298 R := ⟨h298, n315, n316, n317⟩
theorem h309 : R.Fn 309 c309 := ⟨by kernel_rfl⟩
theorem n309 : N309 R := ⟨h309, n84, n193, n290, n292⟩
theorem h310 : R.Fn 310 c310 := ⟨by kernel_rfl⟩
theorem n310 : N310 R := ⟨h310⟩
theorem h311 : R.Fn 311 c311 := ⟨by kernel_rfl⟩
theorem n311 : N311 R := ⟨h311, n54, n71, n82, n196⟩
theorem h294 : R.Fn 294 c294 := ⟨by kernel_rfl⟩
theorem n294 : N294 R := ⟨h294, n37, n298, n309, n310, n311⟩
theorem h299 : R.Fn 299 c299 := ⟨by kernel_rfl⟩
theorem n299 : N299 R := ⟨h299, n89, n204⟩
theorem h343 : R.Fn 343 c343 := ⟨by kernel_rfl⟩
theorem n343 : N343 R := ⟨h343⟩
theorem h345 : R.Fn 345 c345 := ⟨by kernel_rfl⟩
theorem n345 : N345 R := ⟨h345⟩
theorem h355 : R.Fn 355 c355 := ⟨by kernel_rfl⟩
theorem n355 : N355 R := ⟨h355⟩
theorem h361 : R.Fn 361 c361 := ⟨by kernel_rfl⟩
theorem n361 : N361 R := ⟨h361⟩
theorem h362 : R.Fn 362 c362 := ⟨by kernel_rfl⟩
theorem n362 : N362 R := ⟨h362⟩
theorem h356 : R.Fn 356 c356 := ⟨by kernel_rfl⟩
theorem n356 : N356 R := ⟨h356, n101, n361, n362⟩
theorem h346 : R.Fn 346 c346 := ⟨by kernel_rfl⟩
theorem n346 : N346 R := ⟨h346, n294, n355, n356⟩
theorem h357 : R.Fn 357 c357 := ⟨by kernel_rfl⟩
theorem n357 : N357 R := ⟨h357⟩
theorem h358 : R.Fn 358 c358 := ⟨by kernel_rfl⟩
theorem n358 : N358 R := ⟨h358⟩
theorem h347 : R.Fn 347 c347 := ⟨by kernel_rfl⟩
theorem n347 : N347 R := ⟨h347, n241, n355, n357, n358⟩
theorem h447 : R.Fn 447 c447 := ⟨by kernel_rfl⟩
theorem n447 : N447 R := ⟨h447⟩
theorem h433 : R.Fn 433 c433 := ⟨by kernel_rfl⟩
theorem n433 : N433 R := ⟨h433, n447⟩
theorem h434 : R.As 434 := ⟨by kernel_rfl⟩
theorem n434 : N434 R := ⟨h434⟩
theorem h418 : R.Fn 418 c418 := ⟨by kernel_rfl⟩
theorem n418 : N418 R := ⟨h418, n355, n356, n433, n434⟩
theorem h435 : R.As 435 := ⟨by kernel_rfl⟩
theorem n435 : N435 R := ⟨h435⟩
theorem h468 : R.Fn 468 c468 := ⟨by kernel_rfl⟩
theorem n468 : N468 R := ⟨h468⟩
theorem h451 : R.Fn 451 c451 := ⟨by kernel_rfl⟩
theorem n451 : N451 R := ⟨h451, n468⟩
theorem h452 : R.Fn 452 c452 := ⟨by kernel_rfl⟩
theorem n452 : N452 R := ⟨h452⟩
theorem h450 : R.Fn 450 c450 := ⟨by kernel_rfl⟩
theorem n450 : N450 R := ⟨h450, n451, n452⟩
theorem h436 : R.Fn 436 c436 := ⟨by kernel_rfl⟩
theorem n436 : N436 R := ⟨h436, n358, n450⟩
theorem h419 : R.Fn 419 c419 := ⟨by kernel_rfl⟩
theorem n419 : N419 R := ⟨h419, n355, n435, n436⟩
theorem h420 : R.Fn 420 c420 := ⟨by kernel_rfl⟩
theorem n420 : N420 R := ⟨h420, n191⟩
theorem h427 : R.Fn 427 c427 := ⟨by kernel_rfl⟩
theorem n427 : N427 R := ⟨h427, n355, n358⟩
theorem h437 : R.Fn 437 c437 := ⟨by kernel_rfl⟩
theorem n437 : N437 R := ⟨h437⟩
theorem h438 : R.Fn 438 c438 := ⟨by kernel_rfl⟩
theorem n438 : N438 R := ⟨h438⟩
theorem h428 : R.Fn 428 c428 := ⟨by kernel_rfl⟩
theorem n428 : N428 R := ⟨h428, n355, n437, n438⟩
theorem h421 : R.Fn 421 c421 := ⟨by kernel_rfl⟩
theorem n421 : N421 R := ⟨h421, n346, n347, n427, n428⟩
theorem h422 : R.Fn 422 c422 := ⟨by kernel_rfl⟩
theorem n422 : N422 R := ⟨h422, n299⟩
theorem h431 : R.Fn 431 c431 := ⟨by kernel_rfl⟩
theorem n431 : N431 R := ⟨h431⟩
theorem h423 : R.Fn 423 c423 := ⟨by kernel_rfl⟩
theorem n423 : N423 R := ⟨h423, n345, n346, n418, n428, n431⟩
theorem h426 : R.Fn 426 c426 := ⟨by kernel_rfl⟩
theorem n426 : N426 R := ⟨h426, n343, n345, n347, n418, n419, n420, n421, n422, n423, n427, n428⟩
end Go.Proofs.YtahjfplikclhlaaGreat
