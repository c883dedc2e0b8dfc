/- The program, as the machine has it: its types, its numbers, its functions. -/
import Derived.Test.YtfkolnaidjknoaaU0
import Derived.Test.YtfkolnaidjknoaaProg
namespace Go.Proofs.Ytfkolnaidjknoaa
open Go.AM Go.UM
noncomputable def tt : TT := ttL
  [.tup,
   .func,
   .int .i64,
   .int .i64,
   .bool,
   .int .u8,
   .int .u8,
   .struct [(0, 2), (1, 3), (2, 4), (3, 6)],
   .struct [(0, 2), (1, 3), (2, 4), (3, 6)],
   .str,
   .str,
   .str,
   .int .u64,
   .struct [(0, 9), (1, 12)],
   .struct [(0, 9), (1, 12)],
   .ptr 94,
   .ptr 97,
   .ptr 107,
   .struct [(0, 17)],
   .struct [(0, 17)],
   .iface,
   .int .i32,
   .int .u16,
   .arr 2 22,
   .func,
   .func,
   .func,
   .slice 43,
   .slice 3,
   .struct [(0, 3), (1, 3), (2, 27), (3, 28), (4, 28), (5, 27), (6, 28), (7, 28)],
   .struct [(0, 3), (1, 3), (2, 27), (3, 28), (4, 28), (5, 27), (6, 28), (7, 28)],
   .arr 4 3,
   .func,
   .int .i64,
   .tup,
   .func,
   .tup,
   .func,
   .func,
   .func,
   .func,
   .func,
   .func,
   .arr 3 3,
   .func,
   .tup,
   .func,
   .tup,
   .func,
   .func,
   .slice 30,
   .arr 2 3,
   .func,
   .func,
   .func,
   .func,
   .func,
   .slice 76,
   .tup,
   .func,
   .func,
   .func,
   .func,
   .func,
   .func,
   .func,
   .func,
   .ptr 30,
   .func,
   .func,
   .func,
   .func,
   .func,
   .func,
   .arr 6 28,
   .struct [(0, 3), (1, 3), (2, 3), (3, 9), (4, 28)],
   .struct [(0, 3), (1, 3), (2, 3), (3, 9), (4, 28)],
   .arr 6 76,
   .func,
   .func,
   .func,
   .tup,
   .func,
   .func,
   .func,
   .func,
   .func,
   .slice 28,
   .slice 9,
   .func,
   .func,
   .slice 5,
   .func,
   .struct [(0, 17), (1, 17), (2, 17), (3, 9)],
   .struct [(0, 17), (1, 17), (2, 17), (3, 9)],
   .arr 0 16,
   .struct [(0, 95)],
   .struct [(0, 95)],
   .func,
   .int .u32,
   .int .u8,
   .int .u8,
   .func,
   .ptr 5,
   .int .i32,
   .int .i32,
   .struct [(0, 12), (1, 12), (2, 99), (3, 100), (4, 5), (5, 5), (6, 101), (7, 102), (8, 103), (9, 104), (10, 105)],
   .struct [(0, 12), (1, 12), (2, 99), (3, 100), (4, 5), (5, 5), (6, 101), (7, 102), (8, 103), (9, 104), (10, 105)],
   .other]
  [1, 1, 1, 1, 1, 1, 1, 4, 4, 1, 1, 1, 1, 2, 2, 1, 1, 1, 1, 1, 1, 1, 1, 2, 1, 1, 1, 1, 1, 8, 8, 4, 1, 1, 1, 1, 1, 1, 1, 1, 1, 1, 1, 3, 1, 1, 1, 1, 1, 1, 1, 2, 1, 1, 1, 1, 1, 1, 1, 1, 1, 1, 1, 1, 1, 1, 1, 1, 1, 1, 1, 1, 1, 1, 6, 5, 5, 30, 1, 1, 1, 1, 1, 1, 1, 1, 1, 1, 1, 1, 1, 1, 1, 4, 4, 0, 0, 0, 1, 1, 1, 1, 1, 1, 1, 1, 11, 11, 1]
  [.tup [],
   .nilf,
   .int .i64 0,
   .int .i64 0,
   .bool false,
   .int .u8 0,
   .int .u8 0,
   .agg [.int .i64 0, .int .i64 0, .bool false, .int .u8 0],
   .agg [.int .i64 0, .int .i64 0, .bool false, .int .u8 0],
   .str [],
   .str [],
   .str [],
   .int .u64 0,
   .agg [.str [], .int .u64 0],
   .agg [.str [], .int .u64 0],
   .nilp,
   .nilp,
   .nilp,
   .agg [.nilp],
   .agg [.nilp],
   .nili,
   .int .i32 0,
   .int .u16 0,
   .agg [.int .u16 0, .int .u16 0],
   .nilf,
   .nilf,
   .nilf,
   .nils,
   .nils,
   .agg [.int .i64 0, .int .i64 0, .nils, .nils, .nils, .nils, .nils, .nils],
   .agg [.int .i64 0, .int .i64 0, .nils, .nils, .nils, .nils, .nils, .nils],
   .agg [.int .i64 0, .int .i64 0, .int .i64 0, .int .i64 0],
   .nilf,
   .int .i64 0,
   .tup [.bad, .int .i64 0],
   .nilf,
   .tup [.bad, .int .i64 0],
   .nilf,
   .nilf,
   .nilf,
   .nilf,
   .nilf,
   .nilf,
   .agg [.int .i64 0, .int .i64 0, .int .i64 0],
   .nilf,
   .tup [.int .i64 0, .int .i64 0, .int .i64 0],
   .nilf,
   .tup [.int .i64 0, .int .i64 0, .int .i64 0],
   .nilf,
   .nilf,
   .nils,
   .agg [.int .i64 0, .int .i64 0],
   .nilf,
   .nilf,
   .nilf,
   .nilf,
   .nilf,
   .nils,
   .tup [.nils, .int .i64 0],
   .nilf,
   .nilf,
   .nilf,
   .nilf,
   .nilf,
   .nilf,
   .nilf,
   .nilf,
   .nilp,
   .nilf,
   .nilf,
   .nilf,
   .nilf,
   .nilf,
   .nilf,
   .agg [.nils, .nils, .nils, .nils, .nils, .nils],
   .agg [.int .i64 0, .int .i64 0, .int .i64 0, .str [], .nils],
   .agg [.int .i64 0, .int .i64 0, .int .i64 0, .str [], .nils],
   .agg [.int .i64 0, .int .i64 0, .int .i64 0, .str [], .nils, .int .i64 0, .int .i64 0, .int .i64 0, .str [], .nils, .int .i64 0, .int .i64 0, .int .i64 0, .str [], .nils, .int .i64 0, .int .i64 0, .int .i64 0, .str [], .nils, .int .i64 0, .int .i64 0, .int .i64 0, .str [], .nils, .int .i64 0, .int .i64 0, .int .i64 0, .str [], .nils],
   .nilf,
   .nilf,
   .nilf,
   .tup [.nils, .int .i64 0],
   .nilf,
   .nilf,
   .nilf,
   .nilf,
   .nilf,
   .nils,
   .nils,
   .nilf,
   .nilf,
   .nils,
   .nilf,
   .agg [.nilp, .nilp, .nilp, .str []],
   .agg [.nilp, .nilp, .nilp, .str []],
   .agg [],
   .agg [],
   .agg [],
   .nilf,
   .int .u32 0,
   .int .u8 0,
   .int .u8 0,
   .nilf,
   .nilp,
   .int .i32 0,
   .int .i32 0,
   .agg [.int .u64 0, .int .u64 0, .int .u32 0, .int .u8 0, .int .u8 0, .int .u8 0, .int .u8 0, .nilf, .nilp, .int .i32 0, .int .i32 0],
   .agg [.int .u64 0, .int .u64 0, .int .u32 0, .int .u8 0, .int .u8 0, .int .u8 0, .int .u8 0, .nilf, .nilp, .int .i32 0, .int .i32 0],
   .nilp]
theorem hT : PT Try.prog tt := ⟨ttL_ok 109 (by kernel_rfl) (by kernel_rfl) (by kernel_rfl), by kernel_rfl⟩
def ftl : List (Nat × Nat) := [(101, 51), (108, 3), (109, 10), (110, 11), (111, 4), (112, 12), (113, 13), (114, 14), (115, 15), (116, 16), (117, 17), (118, 5), (119, 18), (120, 19), (121, 6), (122, 20), (123, 21), (124, 22), (125, 23), (126, 7), (127, 24), (128, 25), (129, 26), (130, 27), (131, 8), (132, 28), (133, 9), (134, 29), (135, 30), (136, 31), (137, 32), (138, 33), (139, 34), (140, 35), (141, 36), (142, 37), (143, 38), (144, 39), (145, 40), (146, 41), (147, 42), (148, 43), (149, 44), (150, 45), (151, 46), (152, 47), (153, 48), (154, 49), (155, 50), (156, 52), (157, 53), (158, 54), (159, 55), (160, 56), (161, 57), (162, 58)]
def tyl : List (Nat × Nat) := [(0, 99), (4, 5), (10, 3), (13, 43), (15, 23), (16, 30), (17, 31), (18, 51), (19, 74), (20, 76), (21, 77), (22, 28), (23, 9), (46, 4)]
noncomputable def R : Env := { P := Try.prog, T := tt, ok := hT, ft := lkp ftl, ty := lkp tyl }
theorem h101 : R.Fn 101 c101 := ⟨by kernel_rfl⟩
theorem n101 : N101 R := ⟨h101⟩
theorem h134 : R.Fn 134 c134 := ⟨by kernel_rfl⟩
theorem n134 : N134 R := ⟨h134⟩
theorem h109 : R.Fn 109 c109 := ⟨by kernel_rfl⟩
theorem n109 : N109 R := ⟨h109, n134⟩
theorem h110 : R.Fn 110 c110 := ⟨by kernel_rfl⟩
theorem n110 : N110 R := ⟨h110, n109⟩
theorem h108 : R.Fn 108 c108 := ⟨by kernel_rfl⟩
theorem n108 : N108 R := ⟨h108, n109, n110⟩
theorem h135 : R.Fn 135 c135 := ⟨by kernel_rfl⟩
theorem n135 : N135 R := ⟨h135⟩
theorem h112 : R.Fn 112 c112 := ⟨by kernel_rfl⟩
theorem n112 : N112 R := ⟨h112, n135⟩
theorem h151 : R.Fn 151 c151 := ⟨by kernel_rfl⟩
theorem n151 : N151 R := ⟨h151⟩
theorem h152 : R.Fn 152 c152 := ⟨by kernel_rfl⟩
theorem n152 : N152 R := ⟨h152⟩
theorem h157 : R.Fn 157 c157 := ⟨by kernel_rfl⟩
theorem n157 : N157 R := ⟨h157⟩
theorem h158 : R.Fn 158 c158 := ⟨by kernel_rfl⟩
theorem n158 : N158 R := ⟨h158, n157⟩
theorem h153 : R.Fn 153 c153 := ⟨by kernel_rfl⟩
theorem n153 : N153 R := ⟨h153, n157, n158⟩
theorem h132 : R.Fn 132 c132 := ⟨by kernel_rfl⟩
theorem n132 : N132 R := ⟨h132, n151, n152, n153⟩
theorem h136 : R.Fn 136 c136 := ⟨by kernel_rfl⟩
theorem n136 : N136 R := ⟨h136, n132⟩
theorem h137 : R.Fn 137 c137 := ⟨by kernel_rfl⟩
theorem n137 : N137 R := ⟨h137⟩
theorem h154 : R.Fn 154 c154 := ⟨by kernel_rfl⟩
theorem n154 : N154 R := ⟨h154⟩
theorem h138 : R.Fn 138 c138 := ⟨by kernel_rfl⟩
theorem n138 : N138 R := ⟨h138, n154⟩
theorem h139 : R.Fn 139 c139 := ⟨by kernel_rfl⟩
theorem n139 : N139 R := ⟨h139⟩
theorem h113 : R.Fn 113 c113 := ⟨by kernel_rfl⟩
theorem n113 : N113 R := ⟨h113, n136, n137, n138, n139⟩
theorem h159 : R.Fn 159 c159 := ⟨by kernel_rfl⟩
theorem n159 : N159 R := ⟨h159⟩
theorem h160 : R.Fn 160 c160 := ⟨by kernel_rfl⟩
theorem n160 : N160 R := ⟨h160⟩
theorem h161 : R.Fn 161 c161 := ⟨by kernel_rfl⟩
theorem n161 : N161 R := ⟨h161⟩
theorem h162 : R.Fn 162 c162 := ⟨by kernel_rfl⟩
theorem n162 : N162 R := ⟨h162⟩
theorem h155 : R.Fn 155 c155 := ⟨by kernel_rfl⟩
theorem n155 : N155 R := ⟨h155, n159, n160, n161, n162⟩
theorem h140 : R.Fn 140 c140 := ⟨by kernel_rfl⟩
theorem n140 : N140 R := ⟨h140, n155⟩
theorem h141 : R.Fn 141 c141 := ⟨by kernel_rfl⟩
theorem n141 : N141 R := ⟨h141⟩
theorem h142 : R.Fn 142 c142 := ⟨by kernel_rfl⟩
theorem n142 : N142 R := ⟨h142⟩
theorem h114 : R.Fn 114 c114 := ⟨by kernel_rfl⟩
theorem n114 : N114 R := ⟨h114, n140, n141, n142⟩
theorem h156 : R.Fn 156 c156 := ⟨by kernel_rfl⟩
theorem n156 : N156 R := ⟨h156⟩
theorem h143 : R.Fn 143 c143 := ⟨by kernel_rfl⟩
theorem n143 : N143 R := ⟨h143, n101, n156⟩
theorem h115 : R.Fn 115 c115 := ⟨by kernel_rfl⟩
theorem n115 : N115 R := ⟨h115, n136, n137, n139, n143⟩
theorem h116 : R.Fn 116 c116 := ⟨by kernel_rfl⟩
theorem n116 : N116 R := ⟨h116, n140, n141, n142⟩
theorem h144 : R.Fn 144 c144 := ⟨by kernel_rfl⟩
theorem n144 : N144 R := ⟨h144⟩
theorem h145 : R.Fn 145 c145 := ⟨by kernel_rfl⟩
theorem n145 : N145 R := ⟨h145⟩
theorem h117 : R.Fn 117 c117 := ⟨by kernel_rfl⟩
theorem n117 : N117 R := ⟨h117, n144, n145⟩
theorem h111 : R.Fn 111 c111 := ⟨by kernel_rfl⟩
theorem n111 : N111 R := ⟨h111, n110, n112, n113, n114, n115, n116, n117⟩
theorem h119 : R.Fn 119 c119 := ⟨by kernel_rfl⟩
theorem n119 : N119 R := ⟨h119, n109, n136, n139, n143⟩
theorem h146 : R.Fn 146 c146 := ⟨by kernel_rfl⟩
theorem n146 : N146 R := ⟨h146⟩
theorem h147 : R.Fn 147 c147 := ⟨by kernel_rfl⟩
theorem n147 : N147 R := ⟨h147⟩
theorem h120 : R.Fn 120 c120 := ⟨by kernel_rfl⟩
theorem n120 : N120 R := ⟨h120, n146, n147⟩
theorem h118 : R.Fn 118 c118 := ⟨by kernel_rfl⟩
theorem n118 : N118 R := ⟨h118, n110, n112, n119, n120⟩
theorem h150 : R.Fn 150 c150 := ⟨by kernel_rfl⟩
theorem n150 : N150 R := ⟨h150⟩
theorem h125 : R.Fn 125 c125 := ⟨by kernel_rfl⟩
theorem n125 : N125 R := ⟨h125, n150⟩
theorem h122 : R.Fn 122 c122 := ⟨by kernel_rfl⟩
theorem n122 : N122 R := ⟨h122, n125, n140, n142⟩
theorem h148 : R.Fn 148 c148 := ⟨by kernel_rfl⟩
theorem n148 : N148 R := ⟨h148⟩
theorem h123 : R.Fn 123 c123 := ⟨by kernel_rfl⟩
theorem n123 : N123 R := ⟨h123, n136, n148⟩
theorem h149 : R.Fn 149 c149 := ⟨by kernel_rfl⟩
theorem n149 : N149 R := ⟨h149⟩
theorem h124 : R.Fn 124 c124 := ⟨by kernel_rfl⟩
theorem n124 : N124 R := ⟨h124, n140, n149⟩
theorem h121 : R.Fn 121 c121 := ⟨by kernel_rfl⟩
theorem n121 : N121 R := ⟨h121, n109, n110, n112, n117, n119, n122, n123, n124, n125⟩
theorem h127 : R.Fn 127 c127 := ⟨by kernel_rfl⟩
theorem n127 : N127 R := ⟨h127, n119, n136, n143⟩
theorem h128 : R.Fn 128 c128 := ⟨by kernel_rfl⟩
theorem n128 : N128 R := ⟨h128, n122, n140⟩
theorem h129 : R.Fn 129 c129 := ⟨by kernel_rfl⟩
theorem n129 : N129 R := ⟨h129, n138⟩
theorem h130 : R.Fn 130 c130 := ⟨by kernel_rfl⟩
theorem n130 : N130 R := ⟨h130⟩
theorem h126 : R.Fn 126 c126 := ⟨by kernel_rfl⟩
theorem n126 : N126 R := ⟨h126, n110, n112, n117, n127, n128, n129, n130⟩
theorem h131 : R.Fn 131 c131 := ⟨by kernel_rfl⟩
theorem n131 : N131 R := ⟨h131, n110, n112, n119, n120, n123, n129, n132⟩
theorem h133 : R.Fn 133 c133 := ⟨by kernel_rfl⟩
theorem n133 : N133 R := ⟨h133, n110, n112, n113, n115, n120, n123⟩
end Go.Proofs.Ytfkolnaidjknoaa
