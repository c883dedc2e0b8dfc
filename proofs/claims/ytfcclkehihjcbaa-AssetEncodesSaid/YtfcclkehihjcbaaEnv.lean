/- The program, as the machine has it: its types, its numbers, its functions. -/
import Derived.Test.YtfcclkehihjcbaaU0
import Derived.Test.YtfcclkehihjcbaaU1
import Derived.Test.YtfcclkehihjcbaaProg
namespace Go.Proofs.Ytfcclkehihjcbaa
open Go.AM Go.UM
noncomputable def tt : TT := ttL
  [.tup,
   .func,
   .int .i64,
   .int .i64,
   .bool,
   .int .u8,
   .int .u8,
   .struct [(0, 2), (1, 3), (2, 4), (3, 6)],
   .struct [(0, 2), (1, 3), (2, 4), (3, 6)],
   .str,
   .str,
   .str,
   .int .u64,
   .struct [(0, 9), (1, 12)],
   .struct [(0, 9), (1, 12)],
   .ptr 134,
   .ptr 137,
   .ptr 146,
   .struct [(0, 17)],
   .struct [(0, 17)],
   .iface,
   .int .i32,
   .slice 33,
   .slice 74,
   .slice 29,
   .struct [(0, 22), (1, 23), (2, 24)],
   .struct [(0, 22), (1, 23), (2, 24)],
   .struct [(0, 3), (1, 24)],
   .struct [(0, 3), (1, 24)],
   .arr 3 3,
   .struct [(0, 3), (1, 29), (4, 3)],
   .struct [(0, 3), (1, 29), (4, 3)],
   .struct [(0, 3), (1, 3), (2, 3)],
   .struct [(0, 3), (1, 3), (2, 3)],
   .struct [(0, 3), (1, 29), (4, 33), (7, 33), (10, 33)],
   .struct [(0, 3), (1, 29), (4, 33), (7, 33), (10, 33)],
   .struct [(0, 3), (1, 26), (4, 28), (6, 31), (11, 35)],
   .struct [(0, 3), (1, 26), (4, 28), (6, 31), (11, 35)],
   .func,
   .int .i64,
   .func,
   .func,
   .func,
   .func,
   .func,
   .func,
   .func,
   .func,
   .func,
   .slice 5,
   .tup,
   .func,
   .tup,
   .func,
   .func,
   .tup,
   .func,
   .tup,
   .func,
   .func,
   .func,
   .func,
   .func,
   .func,
   .func,
   .slice 3,
   .func,
   .func,
   .func,
   .func,
   .func,
   .func,
   .func,
   .func,
   .arr 2 3,
   .func,
   .func,
   .func,
   .ptr 117,
   .func,
   .struct [(0, 78)],
   .struct [(0, 78)],
   .tup,
   .func,
   .tup,
   .func,
   .func,
   .func,
   .func,
   .ptr 91,
   .struct [(0, 49), (1, 3), (2, 3)],
   .struct [(0, 49), (1, 3), (2, 3)],
   .tup,
   .func,
   .tup,
   .func,
   .int .u64,
   .func,
   .func,
   .func,
   .func,
   .arr 5 3,
   .func,
   .func,
   .func,
   .func,
   .func,
   .func,
   .func,
   .func,
   .func,
   .func,
   .func,
   .slice 96,
   .func,
   .func,
   .struct [(0, 49), (1, 39), (2, 4)],
   .struct [(0, 49), (1, 39), (2, 4)],
   .struct [(0, 78)],
   .func,
   .func,
   .func,
   .func,
   .func,
   .func,
   .func,
   .func,
   .func,
   .func,
   .func,
   .func,
   .func,
   .func,
   .struct [(0, 17), (1, 17), (2, 17), (3, 9)],
   .struct [(0, 17), (1, 17), (2, 17), (3, 9)],
   .arr 0 16,
   .struct [(0, 135)],
   .struct [(0, 135)],
   .int .u32,
   .int .u8,
   .int .u8,
   .func,
   .ptr 5,
   .int .i32,
   .int .i32,
   .struct [(0, 12), (1, 12), (2, 138), (3, 139), (4, 5), (5, 5), (6, 140), (7, 141), (8, 142), (9, 143), (10, 144)],
   .struct [(0, 12), (1, 12), (2, 138), (3, 139), (4, 5), (5, 5), (6, 140), (7, 141), (8, 142), (9, 143), (10, 144)],
   .other]
  [1, 1, 1, 1, 1, 1, 1, 4, 4, 1, 1, 1, 1, 2, 2, 1, 1, 1, 1, 1, 1, 1, 1, 1, 1, 3, 3, 2, 2, 3, 5, 5, 3, 3, 13, 13, 24, 24, 1, 1, 1, 1, 1, 1, 1, 1, 1, 1, 1, 1, 1, 1, 1, 1, 1, 1, 1, 1, 1, 1, 1, 1, 1, 1, 1, 1, 1, 1, 1, 1, 1, 1, 1, 1, 2, 1, 1, 1, 1, 1, 1, 1, 1, 1, 1, 1, 1, 1, 1, 1, 3, 3, 1, 1, 1, 1, 1, 1, 1, 1, 1, 5, 1, 1, 1, 1, 1, 1, 1, 1, 1, 1, 1, 1, 1, 1, 3, 3, 1, 1, 1, 1, 1, 1, 1, 1, 1, 1, 1, 1, 1, 1, 1, 4, 4, 0, 0, 0, 1, 1, 1, 1, 1, 1, 1, 11, 11, 1]
  [.tup [],
   .nilf,
   .int .i64 0,
   .int .i64 0,
   .bool false,
   .int .u8 0,
   .int .u8 0,
   .agg [.int .i64 0, .int .i64 0, .bool false, .int .u8 0],
   .agg [.int .i64 0, .int .i64 0, .bool false, .int .u8 0],
   .str [],
   .str [],
   .str [],
   .int .u64 0,
   .agg [.str [], .int .u64 0],
   .agg [.str [], .int .u64 0],
   .nilp,
   .nilp,
   .nilp,
   .agg [.nilp],
   .agg [.nilp],
   .nili,
   .int .i32 0,
   .nils,
   .nils,
   .nils,
   .agg [.nils, .nils, .nils],
   .agg [.nils, .nils, .nils],
   .agg [.int .i64 0, .nils],
   .agg [.int .i64 0, .nils],
   .agg [.int .i64 0, .int .i64 0, .int .i64 0],
   .agg [.int .i64 0, .int .i64 0, .int .i64 0, .int .i64 0, .int .i64 0],
   .agg [.int .i64 0, .int .i64 0, .int .i64 0, .int .i64 0, .int .i64 0],
   .agg [.int .i64 0, .int .i64 0, .int .i64 0],
   .agg [.int .i64 0, .int .i64 0, .int .i64 0],
   .agg [.int .i64 0, .int .i64 0, .int .i64 0, .int .i64 0, .int .i64 0, .int .i64 0, .int .i64 0, .int .i64 0, .int .i64 0, .int .i64 0, .int .i64 0, .int .i64 0, .int .i64 0],
   .agg [.int .i64 0, .int .i64 0, .int .i64 0, .int .i64 0, .int .i64 0, .int .i64 0, .int .i64 0, .int .i64 0, .int .i64 0, .int .i64 0, .int .i64 0, .int .i64 0, .int .i64 0],
   .agg [.int .i64 0, .nils, .nils, .nils, .int .i64 0, .nils, .int .i64 0, .int .i64 0, .int .i64 0, .int .i64 0, .int .i64 0, .int .i64 0, .int .i64 0, .int .i64 0, .int .i64 0, .int .i64 0, .int .i64 0, .int .i64 0, .int .i64 0, .int .i64 0, .int .i64 0, .int .i64 0, .int .i64 0, .int .i64 0],
   .agg [.int .i64 0, .nils, .nils, .nils, .int .i64 0, .nils, .int .i64 0, .int .i64 0, .int .i64 0, .int .i64 0, .int .i64 0, .int .i64 0, .int .i64 0, .int .i64 0, .int .i64 0, .int .i64 0, .int .i64 0, .int .i64 0, .int .i64 0, .int .i64 0, .int .i64 0, .int .i64 0, .int .i64 0, .int .i64 0],
   .nilf,
   .int .i64 0,
   .nilf,
   .nilf,
   .nilf,
   .nilf,
   .nilf,
   .nilf,
   .nilf,
   .nilf,
   .nilf,
   .nils,
   .tup [.nils, .int .i64 0],
   .nilf,
   .tup [.nils, .int .i64 0],
   .nilf,
   .nilf,
   .tup [.bad, .int .i64 0],
   .nilf,
   .tup [.bad, .int .i64 0],
   .nilf,
   .nilf,
   .nilf,
   .nilf,
   .nilf,
   .nilf,
   .nilf,
   .nils,
   .nilf,
   .nilf,
   .nilf,
   .nilf,
   .nilf,
   .nilf,
   .nilf,
   .nilf,
   .agg [.int .i64 0, .int .i64 0],
   .nilf,
   .nilf,
   .nilf,
   .nilp,
   .nilf,
   .agg [.nilp],
   .agg [.nilp],
   .tup [.bad, .int .i64 0],
   .nilf,
   .tup [.bad, .int .i64 0],
   .nilf,
   .nilf,
   .nilf,
   .nilf,
   .nilp,
   .agg [.nils, .int .i64 0, .int .i64 0],
   .agg [.nils, .int .i64 0, .int .i64 0],
   .tup [.bad, .int .i64 0],
   .nilf,
   .tup [.bad, .int .i64 0],
   .nilf,
   .int .u64 0,
   .nilf,
   .nilf,
   .nilf,
   .nilf,
   .agg [.int .i64 0, .int .i64 0, .int .i64 0, .int .i64 0, .int .i64 0],
   .nilf,
   .nilf,
   .nilf,
   .nilf,
   .nilf,
   .nilf,
   .nilf,
   .nilf,
   .nilf,
   .nilf,
   .nilf,
   .nils,
   .nilf,
   .nilf,
   .agg [.nils, .int .i64 0, .bool false],
   .agg [.nils, .int .i64 0, .bool false],
   .agg [.nilp],
   .nilf,
   .nilf,
   .nilf,
   .nilf,
   .nilf,
   .nilf,
   .nilf,
   .nilf,
   .nilf,
   .nilf,
   .nilf,
   .nilf,
   .nilf,
   .nilf,
   .agg [.nilp, .nilp, .nilp, .str []],
   .agg [.nilp, .nilp, .nilp, .str []],
   .agg [],
   .agg [],
   .agg [],
   .int .u32 0,
   .int .u8 0,
   .int .u8 0,
   .nilf,
   .nilp,
   .int .i32 0,
   .int .i32 0,
   .agg [.int .u64 0, .int .u64 0, .int .u32 0, .int .u8 0, .int .u8 0, .int .u8 0, .int .u8 0, .nilf, .nilp, .int .i32 0, .int .i32 0],
   .agg [.int .u64 0, .int .u64 0, .int .u32 0, .int .u8 0, .int .u8 0, .int .u8 0, .int .u8 0, .nilf, .nilp, .int .i32 0, .int .i32 0],
   .nilp]
theorem hT : PT Try.prog tt := ⟨ttL_ok 148 (by kernel_rfl) (by kernel_rfl) (by kernel_rfl), by kernel_rfl⟩
def ftl : List (Nat × Nat) := [(37, 23), (38, 36), (47, 20), (54, 61), (55, 65), (56, 42), (57, 70), (59, 71), (60, 47), (61, 51), (62, 67), (63, 84), (64, 86), (65, 72), (66, 74), (69, 53), (71, 62), (72, 85), (76, 73), (77, 75), (82, 60), (83, 64), (84, 58), (85, 33), (89, 41), (97, 44), (98, 50), (100, 83), (106, 90), (191, 24), (193, 57), (196, 59), (197, 63), (198, 31), (202, 43), (203, 49), (204, 40), (206, 77), (207, 78), (208, 79), (209, 80), (210, 81), (211, 82), (212, 66), (213, 27), (214, 68), (215, 69), (216, 54), (217, 87), (218, 88), (219, 89), (288, 3), (289, 8), (290, 9), (291, 10), (292, 11), (293, 12), (294, 13), (295, 14), (296, 15), (297, 4), (298, 16), (299, 17), (300, 5), (301, 18), (302, 19), (303, 6), (304, 21), (305, 22), (306, 7), (307, 25), (308, 26), (309, 28), (310, 29), (311, 30), (312, 32), (313, 34), (314, 35), (315, 37), (316, 38), (317, 39), (318, 45), (319, 46), (320, 48), (321, 52), (322, 56), (323, 55), (324, 76)]
def tyl : List (Nat × Nat) := [(0, 138), (4, 5), (5, 101), (6, 96), (8, 91), (9, 117), (10, 3), (12, 28), (13, 29), (18, 74), (22, 65), (23, 9), (25, 26), (26, 33), (30, 118), (39, 37), (40, 31), (41, 35), (42, 81), (46, 4)]
noncomputable def R : Env := { P := Try.prog, T := tt, ok := hT, ft := lkp ftl, ty := lkp tyl }
theorem h37 : R.Fn 37 c37 := ⟨by kernel_rfl⟩
theorem n37 : N37 R := ⟨h37⟩
theorem h38 : R.Fn 38 c38 := ⟨by kernel_rfl⟩
theorem n38 : N38 R := ⟨h38⟩
theorem h47 : R.Fn 47 c47 := ⟨by kernel_rfl⟩
theorem n47 : N47 R := ⟨h47⟩
theorem h62 : R.Fn 62 c62 := ⟨by kernel_rfl⟩
theorem n62 : N62 R := ⟨h62⟩
theorem h54 : R.Fn 54 c54 := ⟨by kernel_rfl⟩
theorem n54 : N54 R := ⟨h54, n62⟩
theorem h63 : R.Fn 63 c63 := ⟨by kernel_rfl⟩
theorem n63 : N63 R := ⟨h63⟩
theorem h55 : R.Fn 55 c55 := ⟨by kernel_rfl⟩
theorem n55 : N55 R := ⟨h55, n63⟩
theorem h56 : R.Fn 56 c56 := ⟨by kernel_rfl⟩
theorem n56 : N56 R := ⟨h56, n62⟩
theorem h64 : R.Fn 64 c64 := ⟨by kernel_rfl⟩
theorem n64 : N64 R := ⟨h64⟩
theorem h59 : R.Fn 59 c59 := ⟨by kernel_rfl⟩
theorem n59 : N59 R := ⟨h59, n64⟩
theorem h57 : R.Fn 57 c57 := ⟨by kernel_rfl⟩
theorem n57 : N57 R := ⟨h57, n59⟩
theorem h65 : R.Fn 65 c65 := ⟨by kernel_rfl⟩
theorem n65 : N65 R := ⟨h65, n64⟩
theorem h60 : R.Fn 60 c60 := ⟨by kernel_rfl⟩
theorem n60 : N60 R := ⟨h60, n65⟩
theorem h66 : R.Fn 66 c66 := ⟨by kernel_rfl⟩
theorem n66 : N66 R := ⟨h66⟩
theorem h61 : R.Fn 61 c61 := ⟨by kernel_rfl⟩
theorem n61 : N61 R := ⟨h61, n66⟩
theorem h69 : R.Fn 69 c69 := ⟨by kernel_rfl⟩
theorem n69 : N69 R := ⟨h69⟩
theorem h71 : R.Fn 71 c71 := ⟨by kernel_rfl⟩
theorem n71 : N71 R := ⟨h71, n54⟩
theorem h72 : R.Fn 72 c72 := ⟨by kernel_rfl⟩
theorem n72 : N72 R := ⟨h72, n55, n63⟩
theorem h76 : R.Fn 76 c76 := ⟨by kernel_rfl⟩
theorem n76 : N76 R := ⟨h76, n57⟩
theorem h77 : R.Fn 77 c77 := ⟨by kernel_rfl⟩
theorem n77 : N77 R := ⟨h77, n61, n63⟩
theorem h106 : R.Fn 106 c106 := ⟨by kernel_rfl⟩
theorem n106 : N106 R := ⟨h106⟩
theorem h100 : R.Fn 100 c100 := ⟨by kernel_rfl⟩
theorem n100 : N100 R := ⟨h100, n106⟩
theorem h84 : R.Fn 84 c84 := ⟨by kernel_rfl⟩
theorem n84 : N84 R := ⟨h84, n100⟩
theorem h82 : R.Fn 82 c82 := ⟨by kernel_rfl⟩
theorem n82 : N82 R := ⟨h82, n84⟩
theorem h85 : R.Fn 85 c85 := ⟨by kernel_rfl⟩
theorem n85 : N85 R := ⟨h85⟩
theorem h83 : R.Fn 83 c83 := ⟨by kernel_rfl⟩
theorem n83 : N83 R := ⟨h83, n85⟩
theorem h89 : R.Fn 89 c89 := ⟨by kernel_rfl⟩
theorem n89 : N89 R := ⟨h89⟩
theorem h97 : R.Fn 97 c97 := ⟨by kernel_rfl⟩
theorem n97 : N97 R := ⟨h97, n56, n57, n59, n60, n84⟩
theorem h98 : R.Fn 98 c98 := ⟨by kernel_rfl⟩
theorem n98 : N98 R := ⟨h98, n61, n69, n85⟩
theorem h191 : R.Fn 191 c191 := ⟨by kernel_rfl⟩
theorem n191 : N191 R := ⟨h191⟩
theorem h206 : R.Fn 206 c206 := ⟨by kernel_rfl⟩
theorem n206 : N206 R := ⟨h206⟩
theorem h207 : R.Fn 207 c207 := ⟨by kernel_rfl⟩
theorem n207 : N207 R := ⟨h207⟩
theorem h208 : R.Fn 208 c208 := ⟨by kernel_rfl⟩
theorem n208 : N208 R := ⟨h208⟩
theorem h217 : R.Fn 217 c217 := ⟨by kernel_rfl⟩
theorem n217 : N217 R := ⟨h217⟩
theorem h209 : R.Fn 209 c209 := ⟨by kernel_rfl⟩
theorem n209 : N209 R := ⟨h209, n217⟩
theorem h218 : R.Fn 218 c218 := ⟨by kernel_rfl⟩
theorem n218 : N218 R := ⟨h218⟩
theorem h210 : R.Fn 210 c210 := ⟨by kernel_rfl⟩
theorem n210 : N210 R := ⟨h210, n218⟩
theorem h219 : R.Fn 219 c219 := ⟨by kernel_rfl⟩
theorem n219 : N219 R := ⟨h219⟩
theorem h211 : R.Fn 211 c211 := ⟨by kernel_rfl⟩
theorem n211 : N211 R := ⟨h211, n219⟩
theorem h193 : R.Fn 193 c193 := ⟨by kernel_rfl⟩
theorem n193 : N193 R := ⟨h193, n206, n207, n208, n209, n210, n211⟩
theorem h196 : R.Fn 196 c196 := ⟨by kernel_rfl⟩
theorem n196 : N196 R := ⟨h196, n54, n71, n193⟩
theorem h213 : R.Fn 213 c213 := ⟨by kernel_rfl⟩
theorem n213 : N213 R := ⟨h213⟩
theorem h198 : R.Fn 198 c198 := ⟨by kernel_rfl⟩
theorem n198 : N198 R := ⟨h198, n213⟩
theorem h212 : R.Fn 212 c212 := ⟨by kernel_rfl⟩
theorem n212 : N212 R := ⟨h212, n72⟩
theorem h197 : R.Fn 197 c197 := ⟨by kernel_rfl⟩
theorem n197 : N197 R := ⟨h197, n198, n212⟩
theorem h214 : R.Fn 214 c214 := ⟨by kernel_rfl⟩
theorem n214 : N214 R := ⟨h214, n57⟩
theorem h215 : R.Fn 215 c215 := ⟨by kernel_rfl⟩
theorem n215 : N215 R := ⟨h215, n76⟩
theorem h202 : R.Fn 202 c202 := ⟨by kernel_rfl⟩
theorem n202 : N202 R := ⟨h202, n56, n60, n193, n214, n215⟩
theorem h216 : R.Fn 216 c216 := ⟨by kernel_rfl⟩
theorem n216 : N216 R := ⟨h216, n77⟩
theorem h203 : R.Fn 203 c203 := ⟨by kernel_rfl⟩
theorem n203 : N203 R := ⟨h203, n61, n69, n198, n216⟩
theorem h204 : R.Fn 204 c204 := ⟨by kernel_rfl⟩
theorem n204 : N204 R := ⟨h204⟩
theorem h289 : R.Fn 289 c289 := ⟨by kernel_rfl⟩
theorem n289 : N289 R := ⟨h289, n191⟩
theorem h322 : R.Fn 322 c322 := ⟨by kernel_rfl⟩
theorem n322 : N322 R := ⟨h322⟩
theorem h324 : R.Fn 324 c324 := ⟨by kernel_rfl⟩
theorem n324 : N324 R := ⟨h324⟩
theorem h323 : R.Fn 323 c323 := ⟨by kernel_rfl⟩
theorem n323 : N323 R := ⟨h323, n324⟩
theorem h307 : R.Fn 307 c307 := ⟨by kernel_rfl⟩
theorem n307 : N307 R := ⟨h307, n322, n323⟩
theorem h290 : R.Fn 290 c290 := ⟨by kernel_rfl⟩
theorem n290 : N290 R := ⟨h290, n307⟩
theorem h291 : R.Fn 291 c291 := ⟨by kernel_rfl⟩
theorem n291 : N291 R := ⟨h291⟩
theorem h308 : R.Fn 308 c308 := ⟨by kernel_rfl⟩
theorem n308 : N308 R := ⟨h308⟩
theorem h292 : R.Fn 292 c292 := ⟨by kernel_rfl⟩
theorem n292 : N292 R := ⟨h292, n307, n308⟩
theorem h293 : R.Fn 293 c293 := ⟨by kernel_rfl⟩
theorem n293 : N293 R := ⟨h293, n213⟩
theorem h315 : R.Fn 315 c315 := ⟨by kernel_rfl⟩
theorem n315 : N315 R := ⟨h315⟩
theorem h316 : R.Fn 316 c316 := ⟨by kernel_rfl⟩
theorem n316 : N316 R := ⟨h316⟩
theorem h317 : R.Fn 317 c317 := ⟨by kernel_rfl⟩
theorem n317 : N317 R := ⟨h317⟩
theorem h298 : R.Fn 298 c298 := ⟨by kernel_rfl⟩
theorem n298 : N298 R := ⟨h298, n315, n316, n317⟩
theorem h309 : R.Fn 309 c309 := ⟨by kernel_rfl⟩
theorem n309 : N309 R := ⟨h309, n84, n193, n290, n292⟩
theorem h310 : R.Fn 310 c310 := ⟨by kernel_rfl⟩
theorem n310 : N310 R := ⟨h310⟩
theorem h311 : R.Fn 311 c311 := ⟨by kernel_rfl⟩
theorem n311 : N311 R := ⟨h311, n54, n71, n82, n196⟩
theorem h294 : R.Fn 294 c294 := ⟨by kernel_rfl⟩
theorem n294 : N294 R := ⟨h294, n37, n298, n309, n310, n311⟩
theorem h312 : R.Fn 312 c312 := ⟨by kernel_rfl⟩
theorem n312 : N312 R := ⟨h312⟩
theorem h313 : R.Fn 313 c313 := ⟨by kernel_rfl⟩
theorem n313 : N313 R := ⟨h313⟩
theorem h314 : R.Fn 314 c314 := ⟨by kernel_rfl⟩
theorem n314 : N314 R := ⟨h314, n55, n83, n197, n212⟩
theorem h295 : R.Fn 295 c295 := ⟨by kernel_rfl⟩
theorem n295 : N295 R := ⟨h295, n38, n85, n198, n291, n293, n312, n313, n314⟩
theorem h301 : R.Fn 301 c301 := ⟨by kernel_rfl⟩
theorem n301 : N301 R := ⟨h301, n294, n311⟩
theorem h296 : R.Fn 296 c296 := ⟨by kernel_rfl⟩
theorem n296 : N296 R := ⟨h296, n301⟩
theorem h288 : R.Fn 288 c288 := ⟨by kernel_rfl⟩
theorem n288 : N288 R := ⟨h288, n289, n290, n291, n292, n293, n294, n295, n296⟩
theorem h299 : R.Fn 299 c299 := ⟨by kernel_rfl⟩
theorem n299 : N299 R := ⟨h299, n89, n204⟩
theorem h297 : R.Fn 297 c297 := ⟨by kernel_rfl⟩
theorem n297 : N297 R := ⟨h297, n289, n296, n298, n299⟩
theorem h302 : R.Fn 302 c302 := ⟨by kernel_rfl⟩
theorem n302 : N302 R := ⟨h302, n295, n314⟩
theorem h300 : R.Fn 300 c300 := ⟨by kernel_rfl⟩
theorem n300 : N300 R := ⟨h300, n47, n289, n296, n301, n302⟩
theorem h318 : R.Fn 318 c318 := ⟨by kernel_rfl⟩
theorem n318 : N318 R := ⟨h318, n57⟩
theorem h319 : R.Fn 319 c319 := ⟨by kernel_rfl⟩
theorem n319 : N319 R := ⟨h319, n318⟩
theorem h320 : R.Fn 320 c320 := ⟨by kernel_rfl⟩
theorem n320 : N320 R := ⟨h320, n76⟩
theorem h304 : R.Fn 304 c304 := ⟨by kernel_rfl⟩
theorem n304 : N304 R := ⟨h304, n56, n60, n97, n202, n294, n318, n319, n320⟩
theorem h321 : R.Fn 321 c321 := ⟨by kernel_rfl⟩
theorem n321 : N321 R := ⟨h321, n61⟩
theorem h305 : R.Fn 305 c305 := ⟨by kernel_rfl⟩
theorem n305 : N305 R := ⟨h305, n61, n69, n98, n203, n216, n295, n321⟩
theorem h303 : R.Fn 303 c303 := ⟨by kernel_rfl⟩
theorem n303 : N303 R := ⟨h303, n296, n299, n304, n305⟩
theorem h306 : R.Fn 306 c306 := ⟨by kernel_rfl⟩
theorem n306 : N306 R := ⟨h306, n37, n47, n289, n296, n298, n301, n304⟩
end Go.Proofs.Ytfcclkehihjcbaa
