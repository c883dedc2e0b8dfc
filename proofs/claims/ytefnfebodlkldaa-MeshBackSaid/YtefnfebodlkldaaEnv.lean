/- The program, as the machine has it: its types, its numbers, its functions. -/
import Derived.Test.YtefnfebodlkldaaU0
import Derived.Test.YtefnfebodlkldaaProg
namespace Go.Proofs.Ytefnfebodlkldaa
open Go.AM Go.UM
noncomputable def tt : TT := ttL
  [.tup,
   .func,
   .int .i64,
   .int .i64,
   .bool,
   .int .u8,
   .int .u8,
   .struct [(0, 2), (1, 3), (2, 4), (3, 6)],
   .struct [(0, 2), (1, 3), (2, 4), (3, 6)],
   .str,
   .str,
   .str,
   .int .u64,
   .struct [(0, 9), (1, 12)],
   .struct [(0, 9), (1, 12)],
   .ptr 95,
   .ptr 98,
   .ptr 107,
   .struct [(0, 17)],
   .struct [(0, 17)],
   .iface,
   .int .i32,
   .slice 29,
   .slice 46,
   .slice 36,
   .struct [(0, 22), (1, 23), (2, 24)],
   .struct [(0, 22), (1, 23), (2, 24)],
   .func,
   .struct [(0, 3), (1, 3), (2, 3)],
   .struct [(0, 3), (1, 3), (2, 3)],
   .int .i64,
   .tup,
   .func,
   .func,
   .func,
   .arr 6 4,
   .arr 3 3,
   .func,
   .slice 5,
   .tup,
   .func,
   .tup,
   .func,
   .func,
   .func,
   .arr 3 29,
   .arr 2 3,
   .arr 3 46,
   .tup,
   .func,
   .func,
   .tup,
   .func,
   .tup,
   .func,
   .func,
   .func,
   .func,
   .func,
   .func,
   .func,
   .func,
   .func,
   .func,
   .func,
   .func,
   .int .u64,
   .func,
   .func,
   .ptr 90,
   .func,
   .struct [(0, 69)],
   .struct [(0, 69)],
   .func,
   .func,
   .func,
   .ptr 78,
   .struct [(0, 38), (1, 3), (2, 3)],
   .struct [(0, 38), (1, 3), (2, 3)],
   .func,
   .func,
   .func,
   .func,
   .func,
   .func,
   .slice 3,
   .slice 66,
   .func,
   .func,
   .struct [(0, 38), (1, 30), (2, 4)],
   .struct [(0, 38), (1, 30), (2, 4)],
   .func,
   .func,
   .func,
   .struct [(0, 17), (1, 17), (2, 17), (3, 9)],
   .struct [(0, 17), (1, 17), (2, 17), (3, 9)],
   .arr 0 16,
   .struct [(0, 96)],
   .struct [(0, 96)],
   .int .u32,
   .int .u8,
   .int .u8,
   .func,
   .ptr 5,
   .int .i32,
   .int .i32,
   .struct [(0, 12), (1, 12), (2, 99), (3, 100), (4, 5), (5, 5), (6, 101), (7, 102), (8, 103), (9, 104), (10, 105)],
   .struct [(0, 12), (1, 12), (2, 99), (3, 100), (4, 5), (5, 5), (6, 101), (7, 102), (8, 103), (9, 104), (10, 105)],
   .other]
  [1, 1, 1, 1, 1, 1, 1, 4, 4, 1, 1, 1, 1, 2, 2, 1, 1, 1, 1, 1, 1, 1, 1, 1, 1, 3, 3, 1, 3, 3, 1, 1, 1, 1, 1, 6, 3, 1, 1, 1, 1, 1, 1, 1, 1, 9, 2, 6, 1, 1, 1, 1, 1, 1, 1, 1, 1, 1, 1, 1, 1, 1, 1, 1, 1, 1, 1, 1, 1, 1, 1, 1, 1, 1, 1, 1, 1, 3, 3, 1, 1, 1, 1, 1, 1, 1, 1, 1, 1, 3, 3, 1, 1, 1, 4, 4, 0, 0, 0, 1, 1, 1, 1, 1, 1, 1, 11, 11, 1]
  [.tup [],
   .nilf,
   .int .i64 0,
   .int .i64 0,
   .bool false,
   .int .u8 0,
   .int .u8 0,
   .agg [.int .i64 0, .int .i64 0, .bool false, .int .u8 0],
   .agg [.int .i64 0, .int .i64 0, .bool false, .int .u8 0],
   .str [],
   .str [],
   .str [],
   .int .u64 0,
   .agg [.str [], .int .u64 0],
   .agg [.str [], .int .u64 0],
   .nilp,
   .nilp,
   .nilp,
   .agg [.nilp],
   .agg [.nilp],
   .nili,
   .int .i32 0,
   .nils,
   .nils,
   .nils,
   .agg [.nils, .nils, .nils],
   .agg [.nils, .nils, .nils],
   .nilf,
   .agg [.int .i64 0, .int .i64 0, .int .i64 0],
   .agg [.int .i64 0, .int .i64 0, .int .i64 0],
   .int .i64 0,
   .tup [.bad, .bad, .int .i64 0],
   .nilf,
   .nilf,
   .nilf,
   .agg [.bool false, .bool false, .bool false, .bool false, .bool false, .bool false],
   .agg [.int .i64 0, .int .i64 0, .int .i64 0],
   .nilf,
   .nils,
   .tup [.nils, .int .i64 0],
   .nilf,
   .tup [.nils, .int .i64 0],
   .nilf,
   .nilf,
   .nilf,
   .agg [.int .i64 0, .int .i64 0, .int .i64 0, .int .i64 0, .int .i64 0, .int .i64 0, .int .i64 0, .int .i64 0, .int .i64 0],
   .agg [.int .i64 0, .int .i64 0],
   .agg [.int .i64 0, .int .i64 0, .int .i64 0, .int .i64 0, .int .i64 0, .int .i64 0],
   .tup [.bad, .bad, .int .i64 0],
   .nilf,
   .nilf,
   .tup [.bad, .int .i64 0],
   .nilf,
   .tup [.bad, .int .i64 0],
   .nilf,
   .nilf,
   .nilf,
   .nilf,
   .nilf,
   .nilf,
   .nilf,
   .nilf,
   .nilf,
   .nilf,
   .nilf,
   .nilf,
   .int .u64 0,
   .nilf,
   .nilf,
   .nilp,
   .nilf,
   .agg [.nilp],
   .agg [.nilp],
   .nilf,
   .nilf,
   .nilf,
   .nilp,
   .agg [.nils, .int .i64 0, .int .i64 0],
   .agg [.nils, .int .i64 0, .int .i64 0],
   .nilf,
   .nilf,
   .nilf,
   .nilf,
   .nilf,
   .nilf,
   .nils,
   .nils,
   .nilf,
   .nilf,
   .agg [.nils, .int .i64 0, .bool false],
   .agg [.nils, .int .i64 0, .bool false],
   .nilf,
   .nilf,
   .nilf,
   .agg [.nilp, .nilp, .nilp, .str []],
   .agg [.nilp, .nilp, .nilp, .str []],
   .agg [],
   .agg [],
   .agg [],
   .int .u32 0,
   .int .u8 0,
   .int .u8 0,
   .nilf,
   .nilp,
   .int .i32 0,
   .int .i32 0,
   .agg [.int .u64 0, .int .u64 0, .int .u32 0, .int .u8 0, .int .u8 0, .int .u8 0, .int .u8 0, .nilf, .nilp, .int .i32 0, .int .i32 0],
   .agg [.int .u64 0, .int .u64 0, .int .u32 0, .int .u8 0, .int .u8 0, .int .u8 0, .int .u8 0, .nilf, .nilp, .int .i32 0, .int .i32 0],
   .nilp]
theorem hT : PT Try.prog tt := ⟨ttL_ok 109 (by kernel_rfl) (by kernel_rfl) (by kernel_rfl), by kernel_rfl⟩
def ftl : List (Nat × Nat) := [(47, 15), (54, 27), (55, 48), (56, 30), (57, 42), (59, 49), (60, 33), (61, 34), (62, 40), (63, 47), (64, 50), (65, 44), (66, 45), (69, 36), (71, 26), (72, 41), (76, 43), (77, 46), (190, 3), (191, 8), (192, 9), (193, 10), (194, 11), (195, 4), (196, 12), (197, 13), (198, 14), (199, 5), (200, 16), (201, 6), (202, 17), (203, 18), (204, 19), (205, 7), (206, 20), (207, 21), (208, 22), (209, 23), (210, 24), (211, 25), (212, 28), (213, 29), (214, 31), (215, 32), (216, 35), (217, 37), (218, 38), (219, 39)]
def tyl : List (Nat × Nat) := [(0, 99), (4, 5), (6, 66), (8, 78), (9, 90), (10, 3), (13, 36), (18, 46), (22, 85), (23, 9), (25, 26), (26, 29), (27, 35), (28, 45), (29, 47), (30, 72), (46, 4)]
noncomputable def R : Env := { P := Try.prog, T := tt, ok := hT, ft := lkp ftl, ty := lkp tyl }
theorem h62 : R.Fn 62 c62 := ⟨by kernel_rfl⟩
theorem n62 : N62 R := ⟨h62⟩
theorem h54 : R.Fn 54 c54 := ⟨by kernel_rfl⟩
theorem n54 : N54 R := ⟨h54, n62⟩
theorem h63 : R.Fn 63 c63 := ⟨by kernel_rfl⟩
theorem n63 : N63 R := ⟨h63⟩
theorem h55 : R.Fn 55 c55 := ⟨by kernel_rfl⟩
theorem n55 : N55 R := ⟨h55, n63⟩
theorem h47 : R.Fn 47 c47 := ⟨by kernel_rfl⟩
theorem n47 : N47 R := ⟨h47⟩
theorem h56 : R.Fn 56 c56 := ⟨by kernel_rfl⟩
theorem n56 : N56 R := ⟨h56, n62⟩
theorem h64 : R.Fn 64 c64 := ⟨by kernel_rfl⟩
theorem n64 : N64 R := ⟨h64⟩
theorem h59 : R.Fn 59 c59 := ⟨by kernel_rfl⟩
theorem n59 : N59 R := ⟨h59, n64⟩
theorem h57 : R.Fn 57 c57 := ⟨by kernel_rfl⟩
theorem n57 : N57 R := ⟨h57, n59⟩
theorem h65 : R.Fn 65 c65 := ⟨by kernel_rfl⟩
theorem n65 : N65 R := ⟨h65, n64⟩
theorem h60 : R.Fn 60 c60 := ⟨by kernel_rfl⟩
theorem n60 : N60 R := ⟨h60, n65⟩
theorem h66 : R.Fn 66 c66 := ⟨by kernel_rfl⟩
theorem n66 : N66 R := ⟨h66⟩
theorem h61 : R.Fn 61 c61 := ⟨by kernel_rfl⟩
theorem n61 : N61 R := ⟨h61, n66⟩
theorem h69 : R.Fn 69 c69 := ⟨by kernel_rfl⟩
theorem n69 : N69 R := ⟨h69⟩
theorem h71 : R.Fn 71 c71 := ⟨by kernel_rfl⟩
theorem n71 : N71 R := ⟨h71, n54⟩
theorem h72 : R.Fn 72 c72 := ⟨by kernel_rfl⟩
theorem n72 : N72 R := ⟨h72, n55, n63⟩
theorem h76 : R.Fn 76 c76 := ⟨by kernel_rfl⟩
theorem n76 : N76 R := ⟨h76, n57⟩
theorem h77 : R.Fn 77 c77 := ⟨by kernel_rfl⟩
theorem n77 : N77 R := ⟨h77, n61, n63⟩
theorem h191 : R.Fn 191 c191 := ⟨by kernel_rfl⟩
theorem n191 : N191 R := ⟨h191⟩
theorem h206 : R.Fn 206 c206 := ⟨by kernel_rfl⟩
theorem n206 : N206 R := ⟨h206⟩
theorem h207 : R.Fn 207 c207 := ⟨by kernel_rfl⟩
theorem n207 : N207 R := ⟨h207⟩
theorem h208 : R.Fn 208 c208 := ⟨by kernel_rfl⟩
theorem n208 : N208 R := ⟨h208⟩
theorem h217 : R.Fn 217 c217 := ⟨by kernel_rfl⟩
theorem n217 : N217 R := ⟨h217⟩
theorem h209 : R.Fn 209 c209 := ⟨by kernel_rfl⟩
theorem n209 : N209 R := ⟨h209, n217⟩
theorem h218 : R.Fn 218 c218 := ⟨by kernel_rfl⟩
theorem n218 : N218 R := ⟨h218⟩
theorem h210 : R.Fn 210 c210 := ⟨by kernel_rfl⟩
theorem n210 : N210 R := ⟨h210, n218⟩
theorem h219 : R.Fn 219 c219 := ⟨by kernel_rfl⟩
theorem n219 : N219 R := ⟨h219⟩
theorem h211 : R.Fn 211 c211 := ⟨by kernel_rfl⟩
theorem n211 : N211 R := ⟨h211, n219⟩
theorem h193 : R.Fn 193 c193 := ⟨by kernel_rfl⟩
theorem n193 : N193 R := ⟨h193, n206, n207, n208, n209, n210, n211⟩
theorem h192 : R.Fn 192 c192 := ⟨by kernel_rfl⟩
theorem n192 : N192 R := ⟨h192, n193⟩
theorem h196 : R.Fn 196 c196 := ⟨by kernel_rfl⟩
theorem n196 : N196 R := ⟨h196, n54, n71, n193⟩
theorem h194 : R.Fn 194 c194 := ⟨by kernel_rfl⟩
theorem n194 : N194 R := ⟨h194, n192, n196⟩
theorem h190 : R.Fn 190 c190 := ⟨by kernel_rfl⟩
theorem n190 : N190 R := ⟨h190, n191, n192, n193, n194⟩
theorem h213 : R.Fn 213 c213 := ⟨by kernel_rfl⟩
theorem n213 : N213 R := ⟨h213⟩
theorem h198 : R.Fn 198 c198 := ⟨by kernel_rfl⟩
theorem n198 : N198 R := ⟨h198, n213⟩
theorem h212 : R.Fn 212 c212 := ⟨by kernel_rfl⟩
theorem n212 : N212 R := ⟨h212, n72⟩
theorem h197 : R.Fn 197 c197 := ⟨by kernel_rfl⟩
theorem n197 : N197 R := ⟨h197, n198, n212⟩
theorem h195 : R.Fn 195 c195 := ⟨by kernel_rfl⟩
theorem n195 : N195 R := ⟨h195, n47, n191, n193, n194, n196, n197, n198⟩
theorem h200 : R.Fn 200 c200 := ⟨by kernel_rfl⟩
theorem n200 : N200 R := ⟨h200, n193⟩
theorem h199 : R.Fn 199 c199 := ⟨by kernel_rfl⟩
theorem n199 : N199 R := ⟨h199, n191, n194, n198, n200⟩
theorem h214 : R.Fn 214 c214 := ⟨by kernel_rfl⟩
theorem n214 : N214 R := ⟨h214, n57⟩
theorem h215 : R.Fn 215 c215 := ⟨by kernel_rfl⟩
theorem n215 : N215 R := ⟨h215, n76⟩
theorem h202 : R.Fn 202 c202 := ⟨by kernel_rfl⟩
theorem n202 : N202 R := ⟨h202, n56, n60, n193, n214, n215⟩
theorem h216 : R.Fn 216 c216 := ⟨by kernel_rfl⟩
theorem n216 : N216 R := ⟨h216, n77⟩
theorem h203 : R.Fn 203 c203 := ⟨by kernel_rfl⟩
theorem n203 : N203 R := ⟨h203, n61, n69, n198, n216⟩
theorem h204 : R.Fn 204 c204 := ⟨by kernel_rfl⟩
theorem n204 : N204 R := ⟨h204⟩
theorem h201 : R.Fn 201 c201 := ⟨by kernel_rfl⟩
theorem n201 : N201 R := ⟨h201, n194, n202, n203, n204⟩
theorem h205 : R.Fn 205 c205 := ⟨by kernel_rfl⟩
theorem n205 : N205 R := ⟨h205, n47, n191, n194, n196, n202, n204⟩
end Go.Proofs.Ytefnfebodlkldaa
