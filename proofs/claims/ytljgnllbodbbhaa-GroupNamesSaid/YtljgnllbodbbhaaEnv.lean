/- The program, as the machine has it. -/
import Derived.Test.YtljgnllbodbbhaaU0
import Derived.Test.YtljgnllbodbbhaaProg
namespace Go.Proofs.Ytljgnllbodbbhaa
open Go.AM Go.UM
noncomputable def tt : TT := ttL
  [.tup,
   .func,
   .int .i64,
   .int .i64,
   .bool,
   .int .u8,
   .int .u8,
   .struct [(0, 2), (1, 3), (2, 4), (3, 6)],
   .struct [(0, 2), (1, 3), (2, 4), (3, 6)],
   .str,
   .str,
   .str,
   .int .u64,
   .struct [(0, 9), (1, 12)],
   .struct [(0, 9), (1, 12)],
   .ptr 205,
   .ptr 208,
   .ptr 217,
   .struct [(0, 17)],
   .struct [(0, 17)],
   .iface,
   .int .i32,
   .slice 41,
   .int .i16,
   .arr 3 23,
   .func,
   .slice 46,
   .int .i64,
   .tup,
   .func,
   .func,
   .int .i64,
   .struct [(0, 31), (1, 31), (2, 31)],
   .struct [(0, 31), (1, 31), (2, 31)],
   .func,
   .struct [(0, 3), (1, 3), (2, 3)],
   .struct [(0, 3), (1, 3), (2, 3)],
   .arr 9 31,
   .struct [(0, 37), (9, 33)],
   .struct [(0, 37), (9, 33)],
   .struct [(0, 3), (1, 39), (13, 3), (14, 3), (15, 3)],
   .struct [(0, 3), (1, 39), (13, 3), (14, 3), (15, 3)],
   .func,
   .func,
   .func,
   .struct [(0, 3), (1, 3), (2, 3), (3, 3), (4, 39)],
   .struct [(0, 3), (1, 3), (2, 3), (3, 3), (4, 39)],
   .func,
   .func,
   .tup,
   .func,
   .tup,
   .func,
   .slice 3,
   .tup,
   .func,
   .func,
   .func,
   .func,
   .func,
   .func,
   .func,
   .slice 83,
   .int .u64,
   .int .u32,
   .arr 8 5,
   .struct [(0, 63), (1, 3), (2, 64), (3, 65), (11, 64), (12, 64), (13, 3), (14, 3)],
   .struct [(0, 63), (1, 3), (2, 64), (3, 65), (11, 64), (12, 64), (13, 3), (14, 3)],
   .slice 36,
   .slice 154,
   .slice 75,
   .struct [(0, 68), (1, 69), (2, 70)],
   .struct [(0, 68), (1, 69), (2, 70)],
   .struct [(0, 3), (1, 70)],
   .struct [(0, 3), (1, 70)],
   .arr 3 3,
   .struct [(0, 3), (1, 75), (4, 3)],
   .struct [(0, 3), (1, 75), (4, 3)],
   .struct [(0, 3), (1, 75), (4, 36), (7, 36), (10, 36)],
   .struct [(0, 3), (1, 75), (4, 36), (7, 36), (10, 36)],
   .struct [(0, 3), (1, 72), (4, 74), (6, 77), (11, 79)],
   .struct [(0, 3), (1, 72), (4, 74), (6, 77), (11, 79)],
   .struct [(0, 3), (1, 67), (16, 81)],
   .struct [(0, 3), (1, 67), (16, 81)],
   .func,
   .tup,
   .func,
   .tup,
   .func,
   .tup,
   .func,
   .func,
   .func,
   .ptr 127,
   .func,
   .func,
   .func,
   .func,
   .map 75 3,
   .func,
   .func,
   .func,
   .func,
   .struct [(0, 2), (1, 63)],
   .struct [(0, 2), (1, 63)],
   .func,
   .slice 33,
   .func,
   .func,
   .func,
   .func,
   .slice 4,
   .func,
   .func,
   .slice 39,
   .func,
   .tup,
   .func,
   .tup,
   .func,
   .func,
   .tup,
   .func,
   .func,
   .map 3 83,
   .map 133 39,
   .struct [(0, 124), (1, 125)],
   .struct [(0, 124), (1, 125)],
   .tup,
   .func,
   .func,
   .tup,
   .struct [(0, 3), (1, 3), (2, 3), (3, 3)],
   .struct [(0, 3), (1, 3), (2, 3), (3, 3)],
   .func,
   .tup,
   .func,
   .func,
   .func,
   .tup,
   .func,
   .tup,
   .func,
   .tup,
   .func,
   .tup,
   .func,
   .slice 31,
   .func,
   .func,
   .func,
   .func,
   .func,
   .func,
   .arr 2 3,
   .func,
   .func,
   .slice 5,
   .func,
   .func,
   .func,
   .func,
   .func,
   .func,
   .func,
   .func,
   .int .u64,
   .func,
   .func,
   .func,
   .func,
   .func,
   .func,
   .func,
   .func,
   .func,
   .func,
   .func,
   .func,
   .func,
   .func,
   .func,
   .tup,
   .func,
   .func,
   .func,
   .func,
   .arr 5 3,
   .func,
   .func,
   .func,
   .func,
   .func,
   .func,
   .func,
   .func,
   .slice 63,
   .func,
   .func,
   .func,
   .func,
   .func,
   .func,
   .func,
   .struct [(0, 17), (1, 17), (2, 17), (3, 9)],
   .struct [(0, 17), (1, 17), (2, 17), (3, 9)],
   .arr 0 16,
   .struct [(0, 206)],
   .struct [(0, 206)],
   .func,
   .int .u8,
   .int .u8,
   .func,
   .ptr 5,
   .int .i32,
   .int .i32,
   .struct [(0, 12), (1, 12), (2, 64), (3, 210), (4, 5), (5, 5), (6, 211), (7, 212), (8, 213), (9, 214), (10, 215)],
   .struct [(0, 12), (1, 12), (2, 64), (3, 210), (4, 5), (5, 5), (6, 211), (7, 212), (8, 213), (9, 214), (10, 215)],
   .other]
  [1, 1, 1, 1, 1, 1, 1, 4, 4, 1, 1, 1, 1, 2, 2, 1, 1, 1, 1, 1, 1, 1, 1, 1, 3, 1, 1, 1, 1, 1, 1, 1, 3, 3, 1, 3, 3, 9, 12, 12, 16, 16, 1, 1, 1, 16, 16, 1, 1, 1, 1, 1, 1, 1, 1, 1, 1, 1, 1, 1, 1, 1, 1, 1, 1, 8, 15, 15, 1, 1, 1, 3, 3, 2, 2, 3, 5, 5, 13, 13, 24, 24, 40, 40, 1, 1, 1, 1, 1, 1, 1, 1, 1, 1, 1, 1, 1, 1, 1, 1, 1, 1, 1, 2, 2, 1, 1, 1, 1, 1, 1, 1, 1, 1, 1, 1, 1, 1, 1, 1, 1, 1, 1, 1, 1, 1, 2, 2, 1, 1, 1, 1, 4, 4, 1, 1, 1, 1, 1, 1, 1, 1, 1, 1, 1, 1, 1, 1, 1, 1, 1, 1, 1, 1, 2, 1, 1, 1, 1, 1, 1, 1, 1, 1, 1, 1, 1, 1, 1, 1, 1, 1, 1, 1, 1, 1, 1, 1, 1, 1, 1, 1, 1, 1, 1, 1, 1, 5, 1, 1, 1, 1, 1, 1, 1, 1, 1, 1, 1, 1, 1, 1, 1, 1, 4, 4, 0, 0, 0, 1, 1, 1, 1, 1, 1, 1, 11, 11, 1]
  [.tup [],
   .nilf,
   .int .i64 0,
   .int .i64 0,
   .bool false,
   .int .u8 0,
   .int .u8 0,
   .agg [.int .i64 0, .int .i64 0, .bool false, .int .u8 0],
   .agg [.int .i64 0, .int .i64 0, .bool false, .int .u8 0],
   .str [],
   .str [],
   .str [],
   .int .u64 0,
   .agg [.str [], .int .u64 0],
   .agg [.str [], .int .u64 0],
   .nilp,
   .nilp,
   .nilp,
   .agg [.nilp],
   .agg [.nilp],
   .nili,
   .int .i32 0,
   .nils,
   .int .i16 0,
   .agg [.int .i16 0, .int .i16 0, .int .i16 0],
   .nilf,
   .nils,
   .int .i64 0,
   .tup [.nils, .int .i64 0],
   .nilf,
   .nilf,
   .int .i64 0,
   .agg [.int .i64 0, .int .i64 0, .int .i64 0],
   .agg [.int .i64 0, .int .i64 0, .int .i64 0],
   .nilf,
   .agg [.int .i64 0, .int .i64 0, .int .i64 0],
   .agg [.int .i64 0, .int .i64 0, .int .i64 0],
   .agg [.int .i64 0, .int .i64 0, .int .i64 0, .int .i64 0, .int .i64 0, .int .i64 0, .int .i64 0, .int .i64 0, .int .i64 0],
   .agg [.int .i64 0, .int .i64 0, .int .i64 0, .int .i64 0, .int .i64 0, .int .i64 0, .int .i64 0, .int .i64 0, .int .i64 0, .int .i64 0, .int .i64 0, .int .i64 0],
   .agg [.int .i64 0, .int .i64 0, .int .i64 0, .int .i64 0, .int .i64 0, .int .i64 0, .int .i64 0, .int .i64 0, .int .i64 0, .int .i64 0, .int .i64 0, .int .i64 0],
   .agg [.int .i64 0, .int .i64 0, .int .i64 0, .int .i64 0, .int .i64 0, .int .i64 0, .int .i64 0, .int .i64 0, .int .i64 0, .int .i64 0, .int .i64 0, .int .i64 0, .int .i64 0, .int .i64 0, .int .i64 0, .int .i64 0],
   .agg [.int .i64 0, .int .i64 0, .int .i64 0, .int .i64 0, .int .i64 0, .int .i64 0, .int .i64 0, .int .i64 0, .int .i64 0, .int .i64 0, .int .i64 0, .int .i64 0, .int .i64 0, .int .i64 0, .int .i64 0, .int .i64 0],
   .nilf,
   .nilf,
   .nilf,
   .agg [.int .i64 0, .int .i64 0, .int .i64 0, .int .i64 0, .int .i64 0, .int .i64 0, .int .i64 0, .int .i64 0, .int .i64 0, .int .i64 0, .int .i64 0, .int .i64 0, .int .i64 0, .int .i64 0, .int .i64 0, .int .i64 0],
   .agg [.int .i64 0, .int .i64 0, .int .i64 0, .int .i64 0, .int .i64 0, .int .i64 0, .int .i64 0, .int .i64 0, .int .i64 0, .int .i64 0, .int .i64 0, .int .i64 0, .int .i64 0, .int .i64 0, .int .i64 0, .int .i64 0],
   .nilf,
   .nilf,
   .tup [.int .i64 0, .int .i64 0],
   .nilf,
   .tup [.bad, .int .i64 0],
   .nilf,
   .nils,
   .tup [.nils, .int .i64 0],
   .nilf,
   .nilf,
   .nilf,
   .nilf,
   .nilf,
   .nilf,
   .nilf,
   .nils,
   .int .u64 0,
   .int .u32 0,
   .agg [.int .u8 0, .int .u8 0, .int .u8 0, .int .u8 0, .int .u8 0, .int .u8 0, .int .u8 0, .int .u8 0],
   .agg [.int .u64 0, .int .i64 0, .int .u32 0, .int .u8 0, .int .u8 0, .int .u8 0, .int .u8 0, .int .u8 0, .int .u8 0, .int .u8 0, .int .u8 0, .int .u32 0, .int .u32 0, .int .i64 0, .int .i64 0],
   .agg [.int .u64 0, .int .i64 0, .int .u32 0, .int .u8 0, .int .u8 0, .int .u8 0, .int .u8 0, .int .u8 0, .int .u8 0, .int .u8 0, .int .u8 0, .int .u32 0, .int .u32 0, .int .i64 0, .int .i64 0],
   .nils,
   .nils,
   .nils,
   .agg [.nils, .nils, .nils],
   .agg [.nils, .nils, .nils],
   .agg [.int .i64 0, .nils],
   .agg [.int .i64 0, .nils],
   .agg [.int .i64 0, .int .i64 0, .int .i64 0],
   .agg [.int .i64 0, .int .i64 0, .int .i64 0, .int .i64 0, .int .i64 0],
   .agg [.int .i64 0, .int .i64 0, .int .i64 0, .int .i64 0, .int .i64 0],
   .agg [.int .i64 0, .int .i64 0, .int .i64 0, .int .i64 0, .int .i64 0, .int .i64 0, .int .i64 0, .int .i64 0, .int .i64 0, .int .i64 0, .int .i64 0, .int .i64 0, .int .i64 0],
   .agg [.int .i64 0, .int .i64 0, .int .i64 0, .int .i64 0, .int .i64 0, .int .i64 0, .int .i64 0, .int .i64 0, .int .i64 0, .int .i64 0, .int .i64 0, .int .i64 0, .int .i64 0],
   .agg [.int .i64 0, .nils, .nils, .nils, .int .i64 0, .nils, .int .i64 0, .int .i64 0, .int .i64 0, .int .i64 0, .int .i64 0, .int .i64 0, .int .i64 0, .int .i64 0, .int .i64 0, .int .i64 0, .int .i64 0, .int .i64 0, .int .i64 0, .int .i64 0, .int .i64 0, .int .i64 0, .int .i64 0, .int .i64 0],
   .agg [.int .i64 0, .nils, .nils, .nils, .int .i64 0, .nils, .int .i64 0, .int .i64 0, .int .i64 0, .int .i64 0, .int .i64 0, .int .i64 0, .int .i64 0, .int .i64 0, .int .i64 0, .int .i64 0, .int .i64 0, .int .i64 0, .int .i64 0, .int .i64 0, .int .i64 0, .int .i64 0, .int .i64 0, .int .i64 0],
   .agg [.int .i64 0, .int .u64 0, .int .i64 0, .int .u32 0, .int .u8 0, .int .u8 0, .int .u8 0, .int .u8 0, .int .u8 0, .int .u8 0, .int .u8 0, .int .u8 0, .int .u32 0, .int .u32 0, .int .i64 0, .int .i64 0, .int .i64 0, .nils, .nils, .nils, .int .i64 0, .nils, .int .i64 0, .int .i64 0, .int .i64 0, .int .i64 0, .int .i64 0, .int .i64 0, .int .i64 0, .int .i64 0, .int .i64 0, .int .i64 0, .int .i64 0, .int .i64 0, .int .i64 0, .int .i64 0, .int .i64 0, .int .i64 0, .int .i64 0, .int .i64 0],
   .agg [.int .i64 0, .int .u64 0, .int .i64 0, .int .u32 0, .int .u8 0, .int .u8 0, .int .u8 0, .int .u8 0, .int .u8 0, .int .u8 0, .int .u8 0, .int .u8 0, .int .u32 0, .int .u32 0, .int .i64 0, .int .i64 0, .int .i64 0, .nils, .nils, .nils, .int .i64 0, .nils, .int .i64 0, .int .i64 0, .int .i64 0, .int .i64 0, .int .i64 0, .int .i64 0, .int .i64 0, .int .i64 0, .int .i64 0, .int .i64 0, .int .i64 0, .int .i64 0, .int .i64 0, .int .i64 0, .int .i64 0, .int .i64 0, .int .i64 0, .int .i64 0],
   .nilf,
   .tup [.nils, .int .i64 0],
   .nilf,
   .tup [.bad, .bad, .int .i64 0],
   .nilf,
   .tup [.bad, .bad, .int .i64 0],
   .nilf,
   .nilf,
   .nilf,
   .nilp,
   .nilf,
   .nilf,
   .nilf,
   .nilf,
   .nilm,
   .nilf,
   .nilf,
   .nilf,
   .nilf,
   .agg [.int .i64 0, .int .u64 0],
   .agg [.int .i64 0, .int .u64 0],
   .nilf,
   .nils,
   .nilf,
   .nilf,
   .nilf,
   .nilf,
   .nils,
   .nilf,
   .nilf,
   .nils,
   .nilf,
   .tup [.nils, .int .i64 0],
   .nilf,
   .tup [.bad, .bad],
   .nilf,
   .nilf,
   .tup [.bad, .int .i64 0],
   .nilf,
   .nilf,
   .nilm,
   .nilm,
   .agg [.nilm, .nilm],
   .agg [.nilm, .nilm],
   .tup [.bad, .bool false],
   .nilf,
   .nilf,
   .tup [.bad, .bool false],
   .agg [.int .i64 0, .int .i64 0, .int .i64 0, .int .i64 0],
   .agg [.int .i64 0, .int .i64 0, .int .i64 0, .int .i64 0],
   .nilf,
   .tup [.bad, .int .i64 0],
   .nilf,
   .nilf,
   .nilf,
   .tup [.int .i64 0, .bool false],
   .nilf,
   .tup [.int .u64 0, .bool false],
   .nilf,
   .tup [.int .u64 0, .int .u64 0],
   .nilf,
   .tup [.bad, .bool false],
   .nilf,
   .nils,
   .nilf,
   .nilf,
   .nilf,
   .nilf,
   .nilf,
   .nilf,
   .agg [.int .i64 0, .int .i64 0],
   .nilf,
   .nilf,
   .nils,
   .nilf,
   .nilf,
   .nilf,
   .nilf,
   .nilf,
   .nilf,
   .nilf,
   .nilf,
   .int .u64 0,
   .nilf,
   .nilf,
   .nilf,
   .nilf,
   .nilf,
   .nilf,
   .nilf,
   .nilf,
   .nilf,
   .nilf,
   .nilf,
   .nilf,
   .nilf,
   .nilf,
   .nilf,
   .tup [.nils, .int .i64 0],
   .nilf,
   .nilf,
   .nilf,
   .nilf,
   .agg [.int .i64 0, .int .i64 0, .int .i64 0, .int .i64 0, .int .i64 0],
   .nilf,
   .nilf,
   .nilf,
   .nilf,
   .nilf,
   .nilf,
   .nilf,
   .nilf,
   .nils,
   .nilf,
   .nilf,
   .nilf,
   .nilf,
   .nilf,
   .nilf,
   .nilf,
   .agg [.nilp, .nilp, .nilp, .str []],
   .agg [.nilp, .nilp, .nilp, .str []],
   .agg [],
   .agg [],
   .agg [],
   .nilf,
   .int .u8 0,
   .int .u8 0,
   .nilf,
   .nilp,
   .int .i32 0,
   .int .i32 0,
   .agg [.int .u64 0, .int .u64 0, .int .u32 0, .int .u8 0, .int .u8 0, .int .u8 0, .int .u8 0, .nilf, .nilp, .int .i32 0, .int .i32 0],
   .agg [.int .u64 0, .int .u64 0, .int .u32 0, .int .u8 0, .int .u8 0, .int .u8 0, .int .u8 0, .nilf, .nilp, .int .i32 0, .int .i32 0],
   .nilp]
theorem hT : PT Try.prog tt := ⟨ttL_ok 219 (by kernel_rfl) (by kernel_rfl) (by kernel_rfl), by kernel_rfl⟩
def ftl : List (Nat × Nat) := [(37, 78), (54, 108), (62, 126), (71, 109), (82, 107), (84, 100), (100, 123), (101, 81), (106, 128), (191, 24), (193, 70), (196, 106), (198, 47), (206, 92), (207, 93), (208, 94), (209, 95), (210, 96), (211, 97), (213, 71), (217, 117), (218, 118), (219, 119), (221, 23), (222, 65), (223, 57), (227, 84), (228, 67), (231, 85), (232, 66), (233, 83), (234, 68), (235, 33), (236, 43), (238, 56), (239, 44), (241, 55), (242, 48), (243, 82), (244, 72), (246, 14), (248, 13), (249, 11), (251, 112), (252, 111), (253, 90), (254, 91), (255, 35), (256, 12), (257, 64), (258, 86), (259, 73), (260, 110), (261, 98), (262, 38), (263, 39), (264, 37), (265, 36), (266, 127), (267, 40), (268, 116), (269, 115), (270, 58), (271, 89), (272, 99), (273, 120), (274, 59), (275, 60), (276, 61), (277, 62), (278, 131), (279, 121), (280, 122), (281, 87), (282, 114), (283, 88), (284, 132), (285, 134), (286, 113), (287, 135), (290, 101), (292, 102), (294, 51), (298, 75), (307, 124), (308, 125), (309, 74), (310, 76), (311, 77), (315, 103), (316, 104), (317, 105), (322, 130), (323, 129), (324, 133), (325, 3), (326, 8), (327, 9), (328, 10), (329, 4), (330, 15), (331, 16), (332, 17), (333, 18), (334, 19), (335, 20), (336, 21), (337, 22), (338, 5), (339, 6), (340, 25), (341, 26), (342, 27), (343, 28), (344, 7), (345, 29), (346, 30), (347, 31), (348, 32), (349, 34), (350, 41), (351, 42), (352, 45), (353, 46), (354, 49), (355, 50), (356, 52), (357, 53), (358, 54), (359, 63), (360, 69), (361, 79), (362, 80)]
def tyl : List (Nat × Nat) := [(0, 64), (1, 65), (2, 67), (4, 5), (5, 187), (6, 63), (10, 3), (12, 74), (13, 75), (18, 154), (22, 53), (23, 9), (25, 72), (26, 36), (31, 33), (32, 31), (33, 39), (35, 24), (37, 37), (38, 104), (39, 81), (40, 77), (41, 79), (43, 41), (44, 46), (45, 83), (46, 4), (47, 127), (48, 62), (49, 133), (51, 157), (57, 124)]
noncomputable def R : Env := { P := Try.prog, T := tt, ok := hT, ft := lkp ftl, ty := lkp tyl }
theorem h37 : R.Fn 37 c37 := ⟨by kernel_rfl⟩
theorem n37 : N37 R := ⟨h37⟩
theorem h62 : R.Fn 62 c62 := ⟨by kernel_rfl⟩
theorem n62 : N62 R := ⟨h62⟩
theorem h54 : R.Fn 54 c54 := ⟨by kernel_rfl⟩
theorem n54 : N54 R := ⟨h54, n62⟩
theorem h71 : R.Fn 71 c71 := ⟨by kernel_rfl⟩
theorem n71 : N71 R := ⟨h71, n54⟩
theorem h106 : R.Fn 106 c106 := ⟨by kernel_rfl⟩
theorem n106 : N106 R := ⟨h106⟩
theorem h100 : R.Fn 100 c100 := ⟨by kernel_rfl⟩
theorem n100 : N100 R := ⟨h100, n106⟩
theorem h84 : R.Fn 84 c84 := ⟨by kernel_rfl⟩
theorem n84 : N84 R := ⟨h84, n100⟩
theorem h82 : R.Fn 82 c82 := ⟨by kernel_rfl⟩
theorem n82 : N82 R := ⟨h82, n84⟩
theorem h101 : R.Fn 101 c101 := ⟨by kernel_rfl⟩
theorem n101 : N101 R := ⟨h101⟩
theorem h206 : R.Fn 206 c206 := ⟨by kernel_rfl⟩
theorem n206 : N206 R := ⟨h206⟩
theorem h207 : R.Fn 207 c207 := ⟨by kernel_rfl⟩
theorem n207 : N207 R := ⟨h207⟩
theorem h208 : R.Fn 208 c208 := ⟨by kernel_rfl⟩
theorem n208 : N208 R := ⟨h208⟩
theorem h217 : R.Fn 217 c217 := ⟨by kernel_rfl⟩
theorem n217 : N217 R := ⟨h217⟩
theorem h209 : R.Fn 209 c209 := ⟨by kernel_rfl⟩
theorem n209 : N209 R := ⟨h209, n217⟩
theorem h218 : R.Fn 218 c218 := ⟨by kernel_rfl⟩
theorem n218 : N218 R := ⟨h218⟩
theorem h210 : R.Fn 210 c210 := ⟨by kernel_rfl⟩
theorem n210 : N210 R := ⟨h210, n218⟩
theorem h219 : R.Fn 219 c219 := ⟨by kernel_rfl⟩
theorem n219 : N219 R := ⟨h219⟩
theorem h211 : R.Fn 211 c211 := ⟨by kernel_rfl⟩
theorem n211 : N211 R := ⟨h211, n219⟩
theorem h193 : R.Fn 193 c193 := ⟨by kernel_rfl⟩
theorem n193 : N193 R := ⟨h193, n206, n207, n208, n209, n210, n211⟩
theorem h196 : R.Fn 196 c196 := ⟨by kernel_rfl⟩
theorem n196 : N196 R := ⟨h196, n54, n71, n193⟩
theorem h221 : R.Fn 221 c221 := ⟨by kernel_rfl⟩
theorem n221 : N221 R := ⟨h221⟩
theorem h223 : R.Fn 223 c223 := ⟨by kernel_rfl⟩
theorem n223 : N223 R := ⟨h223, n221⟩
theorem h227 : R.Fn 227 c227 := ⟨by kernel_rfl⟩
theorem n227 : N227 R := ⟨h227, n221⟩
theorem h251 : R.Fn 251 c251 := ⟨by kernel_rfl⟩
theorem n251 : N251 R := ⟨h251⟩
theorem h262 : R.Fn 262 c262 := ⟨by kernel_rfl⟩
theorem n262 : N262 R := ⟨h262⟩
theorem h275 : R.Fn 275 c275 := ⟨by kernel_rfl⟩
theorem n275 : N275 R := ⟨h275⟩
theorem h276 : R.Fn 276 c276 := ⟨by kernel_rfl⟩
theorem n276 : N276 R := ⟨h276⟩
theorem h286 : R.Xn 286 "math/bits.Sub64" := ⟨by kernel_rfl⟩
theorem n286 : N286 R := ⟨h286⟩
theorem h283 : R.Fn 283 c283 := ⟨by kernel_rfl⟩
theorem n283 : N283 R := ⟨h283, n286⟩
theorem h277 : R.Fn 277 c277 := ⟨by kernel_rfl⟩
theorem n277 : N277 R := ⟨h277, n283⟩
theorem h264 : R.Fn 264 c264 := ⟨by kernel_rfl⟩
theorem n264 : N264 R := ⟨h264, n275, n276, n277⟩
theorem h274 : R.Fn 274 c274 := ⟨by kernel_rfl⟩
theorem n274 : N274 R := ⟨h274⟩
theorem h265 : R.Fn 265 c265 := ⟨by kernel_rfl⟩
theorem n265 : N265 R := ⟨h265, n274⟩
theorem h287 : R.Fn 287 c287 := ⟨by kernel_rfl⟩
theorem n287 : N287 R := ⟨h287⟩
theorem h285 : R.Fn 285 c285 := ⟨by kernel_rfl⟩
theorem n285 : N285 R := ⟨h285, n287⟩
theorem h284 : R.Fn 284 c284 := ⟨by kernel_rfl⟩
theorem n284 : N284 R := ⟨h284, n264, n265, n285⟩
theorem h278 : R.Fn 278 c278 := ⟨by kernel_rfl⟩
theorem n278 : N278 R := ⟨h278, n284⟩
theorem h266 : R.Fn 266 c266 := ⟨by kernel_rfl⟩
theorem n266 : N266 R := ⟨h266, n262, n278⟩
theorem h267 : R.Fn 267 c267 := ⟨by kernel_rfl⟩
theorem n267 : N267 R := ⟨h267⟩
theorem h252 : R.Fn 252 c252 := ⟨by kernel_rfl⟩
theorem n252 : N252 R := ⟨h252, n266, n267⟩
theorem h231 : R.Fn 231 c231 := ⟨by kernel_rfl⟩
theorem n231 : N231 R := ⟨h231, n251, n252⟩
theorem h263 : R.Fn 263 c263 := ⟨by kernel_rfl⟩
theorem n263 : N263 R := ⟨h263, n267⟩
theorem h246 : R.Fn 246 c246 := ⟨by kernel_rfl⟩
theorem n246 : N246 R := ⟨h246, n262, n263⟩
theorem h233 : R.Fn 233 c233 := ⟨by kernel_rfl⟩
theorem n233 : N233 R := ⟨h233, n231, n246⟩
theorem h281 : R.Fn 281 c281 := ⟨by kernel_rfl⟩
theorem n281 : N281 R := ⟨h281⟩
theorem h270 : R.Fn 270 c270 := ⟨by kernel_rfl⟩
theorem n270 : N270 R := ⟨h270, n281⟩
theorem h255 : R.Fn 255 c255 := ⟨by kernel_rfl⟩
theorem n255 : N255 R := ⟨h255, n270⟩
theorem h256 : R.Fn 256 c256 := ⟨by kernel_rfl⟩
theorem n256 : N256 R := ⟨h256, n255⟩
theorem h235 : R.Fn 235 c235 := ⟨by kernel_rfl⟩
theorem n235 : N235 R := ⟨h235, n255, n256⟩
theorem h258 : R.Fn 258 c258 := ⟨by kernel_rfl⟩
theorem n258 : N258 R := ⟨h258⟩
theorem h238 : R.Fn 238 c238 := ⟨by kernel_rfl⟩
theorem n238 : N238 R := ⟨h238, n221, n227, n231, n233, n258⟩
theorem h260 : R.Fn 260 c260 := ⟨by kernel_rfl⟩
theorem n260 : N260 R := ⟨h260⟩
theorem h243 : R.Fn 243 c243 := ⟨by kernel_rfl⟩
theorem n243 : N243 R := ⟨h243, n260⟩
theorem h248 : R.Fn 248 c248 := ⟨by kernel_rfl⟩
theorem n248 : N248 R := ⟨h248, n264, n265⟩
theorem h249 : R.Fn 249 c249 := ⟨by kernel_rfl⟩
theorem n249 : N249 R := ⟨h249, n248⟩
theorem h241 : R.Fn 241 c241 := ⟨by kernel_rfl⟩
theorem n241 : N241 R := ⟨h241, n233, n235, n243, n249⟩
theorem h322 : R.Fn 322 c322 := ⟨by kernel_rfl⟩
theorem n322 : N322 R := ⟨h322⟩
theorem h324 : R.Fn 324 c324 := ⟨by kernel_rfl⟩
theorem n324 : N324 R := ⟨h324⟩
theorem h323 : R.Fn 323 c323 := ⟨by kernel_rfl⟩
theorem n323 : N323 R := ⟨h323, n324⟩
theorem h307 : R.Fn 307 c307 := ⟨by kernel_rfl⟩
theorem n307 : N307 R := ⟨h307, n322, n323⟩
theorem h290 : R.Fn 290 c290 := ⟨by kernel_rfl⟩
theorem n290 : N290 R := ⟨h290, n307⟩
theorem h308 : R.Fn 308 c308 := ⟨by kernel_rfl⟩
theorem n308 : N308 R := ⟨h308⟩
theorem h292 : R.Fn 292 c292 := ⟨by kernel_rfl⟩
theorem n292 : N292 R := ⟨h292, n307, n308⟩
theorem h315 : R.Fn 315 c315 := ⟨by kernel_rfl⟩
theorem n315 : N315 R := ⟨h315⟩
theorem h316 : R.Fn 316 c316 := ⟨by kernel_rfl⟩
theorem n316 : N316 R := ⟨h316⟩
theorem h317 : R.Fn 317 c317 := ⟨by kernel_rfl⟩
theorem n317 : N317 R := ⟨h317⟩
theorem h298 : R.Fn 298 c298 := ⟨by kernel_rfl⟩
theorem n298 : N298 R := ⟨h298, n315, n316, n317⟩
theorem h309 : R.Fn 309 c309 := ⟨by kernel_rfl⟩
theorem n309 : N309 R := ⟨h309, n84, n193, n290, n292⟩
theorem h310 : R.Fn 310 c310 := ⟨by kernel_rfl⟩
theorem n310 : N310 R := ⟨h310⟩
theorem h311 : R.Fn 311 c311 := ⟨by kernel_rfl⟩
theorem n311 : N311 R := ⟨h311, n54, n71, n82, n196⟩
theorem h294 : R.Fn 294 c294 := ⟨by kernel_rfl⟩
theorem n294 : N294 R := ⟨h294, n37, n298, n309, n310, n311⟩
theorem h326 : R.Fn 326 c326 := ⟨by kernel_rfl⟩
theorem n326 : N326 R := ⟨h326⟩
theorem h359 : R.Fn 359 c359 := ⟨by kernel_rfl⟩
theorem n359 : N359 R := ⟨h359⟩
theorem h350 : R.Fn 350 c350 := ⟨by kernel_rfl⟩
theorem n350 : N350 R := ⟨h350, n235, n359⟩
theorem h330 : R.Fn 330 c330 := ⟨by kernel_rfl⟩
theorem n330 : N330 R := ⟨h330, n350⟩
theorem h348 : R.Fn 348 c348 := ⟨by kernel_rfl⟩
theorem n348 : N348 R := ⟨h348, n238⟩
theorem h327 : R.Fn 327 c327 := ⟨by kernel_rfl⟩
theorem n327 : N327 R := ⟨h327, n235, n330, n348⟩
theorem h349 : R.Fn 349 c349 := ⟨by kernel_rfl⟩
theorem n349 : N349 R := ⟨h349, n223, n249⟩
theorem h328 : R.Fn 328 c328 := ⟨by kernel_rfl⟩
theorem n328 : N328 R := ⟨h328, n327, n349⟩
theorem h345 : R.Fn 345 c345 := ⟨by kernel_rfl⟩
theorem n345 : N345 R := ⟨h345⟩
theorem h355 : R.Fn 355 c355 := ⟨by kernel_rfl⟩
theorem n355 : N355 R := ⟨h355⟩
theorem h361 : R.Fn 361 c361 := ⟨by kernel_rfl⟩
theorem n361 : N361 R := ⟨h361⟩
theorem h362 : R.Fn 362 c362 := ⟨by kernel_rfl⟩
theorem n362 : N362 R := ⟨h362⟩
theorem h356 : R.Fn 356 c356 := ⟨by kernel_rfl⟩
theorem n356 : N356 R := ⟨h356, n101, n361, n362⟩
theorem h346 : R.Fn 346 c346 := ⟨by kernel_rfl⟩
theorem n346 : N346 R := ⟨h346, n294, n355, n356⟩
theorem h357 : R.Fn 357 c357 := ⟨by kernel_rfl⟩
theorem n357 : N357 R := ⟨h357⟩
theorem h358 : R.Fn 358 c358 := ⟨by kernel_rfl⟩
theorem n358 : N358 R := ⟨h358⟩
theorem h347 : R.Fn 347 c347 := ⟨by kernel_rfl⟩
theorem n347 : N347 R := ⟨h347, n241, n355, n357, n358⟩
theorem h344 : R.Fn 344 c344 := ⟨by kernel_rfl⟩
theorem n344 : N344 R := ⟨h344, n326, n327, n328, n345, n346, n347⟩
end Go.Proofs.Ytljgnllbodbbhaa
