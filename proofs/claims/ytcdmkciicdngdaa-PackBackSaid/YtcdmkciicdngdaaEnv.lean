/- The program, as the machine has it: its types, its numbers, its functions. -/
import Derived.Test.YtcdmkciicdngdaaU0
import Derived.Test.YtcdmkciicdngdaaProg
namespace Go.Proofs.Ytcdmkciicdngdaa
open Go.AM Go.UM
noncomputable def tt : TT := ttL
  [.tup,
   .func,
   .int .i64,
   .int .i64,
   .bool,
   .int .u8,
   .int .u8,
   .struct [(0, 2), (1, 3), (2, 4), (3, 6)],
   .struct [(0, 2), (1, 3), (2, 4), (3, 6)],
   .str,
   .str,
   .str,
   .int .u64,
   .struct [(0, 9), (1, 12)],
   .struct [(0, 9), (1, 12)],
   .ptr 69,
   .ptr 72,
   .ptr 82,
   .struct [(0, 17)],
   .struct [(0, 17)],
   .iface,
   .int .i32,
   .int .u16,
   .arr 3 22,
   .slice 3,
   .struct [(0, 3), (1, 3), (2, 3), (3, 9), (4, 24)],
   .struct [(0, 3), (1, 3), (2, 3), (3, 9), (4, 24)],
   .slice 5,
   .int .i64,
   .tup,
   .func,
   .tup,
   .func,
   .func,
   .func,
   .func,
   .func,
   .func,
   .tup,
   .func,
   .tup,
   .func,
   .tup,
   .func,
   .func,
   .func,
   .func,
   .slice 26,
   .func,
   .func,
   .tup,
   .func,
   .func,
   .func,
   .func,
   .func,
   .func,
   .func,
   .int .u64,
   .func,
   .func,
   .tup,
   .func,
   .func,
   .func,
   .func,
   .func,
   .func,
   .struct [(0, 17), (1, 17), (2, 17), (3, 9)],
   .struct [(0, 17), (1, 17), (2, 17), (3, 9)],
   .arr 0 16,
   .struct [(0, 70)],
   .struct [(0, 70)],
   .func,
   .int .u32,
   .int .u8,
   .int .u8,
   .func,
   .ptr 5,
   .int .i32,
   .int .i32,
   .struct [(0, 12), (1, 12), (2, 74), (3, 75), (4, 5), (5, 5), (6, 76), (7, 77), (8, 78), (9, 79), (10, 80)],
   .struct [(0, 12), (1, 12), (2, 74), (3, 75), (4, 5), (5, 5), (6, 76), (7, 77), (8, 78), (9, 79), (10, 80)],
   .other]
  [1, 1, 1, 1, 1, 1, 1, 4, 4, 1, 1, 1, 1, 2, 2, 1, 1, 1, 1, 1, 1, 1, 1, 3, 1, 5, 5, 1, 1, 1, 1, 1, 1, 1, 1, 1, 1, 1, 1, 1, 1, 1, 1, 1, 1, 1, 1, 1, 1, 1, 1, 1, 1, 1, 1, 1, 1, 1, 1, 1, 1, 1, 1, 1, 1, 1, 1, 1, 4, 4, 0, 0, 0, 1, 1, 1, 1, 1, 1, 1, 1, 11, 11, 1]
  [.tup [],
   .nilf,
   .int .i64 0,
   .int .i64 0,
   .bool false,
   .int .u8 0,
   .int .u8 0,
   .agg [.int .i64 0, .int .i64 0, .bool false, .int .u8 0],
   .agg [.int .i64 0, .int .i64 0, .bool false, .int .u8 0],
   .str [],
   .str [],
   .str [],
   .int .u64 0,
   .agg [.str [], .int .u64 0],
   .agg [.str [], .int .u64 0],
   .nilp,
   .nilp,
   .nilp,
   .agg [.nilp],
   .agg [.nilp],
   .nili,
   .int .i32 0,
   .int .u16 0,
   .agg [.int .u16 0, .int .u16 0, .int .u16 0],
   .nils,
   .agg [.int .i64 0, .int .i64 0, .int .i64 0, .str [], .nils],
   .agg [.int .i64 0, .int .i64 0, .int .i64 0, .str [], .nils],
   .nils,
   .int .i64 0,
   .tup [.nils, .int .i64 0],
   .nilf,
   .tup [.nils, .int .i64 0],
   .nilf,
   .nilf,
   .nilf,
   .nilf,
   .nilf,
   .nilf,
   .tup [.nils, .int .i64 0],
   .nilf,
   .tup [.bad, .int .i64 0],
   .nilf,
   .tup [.bad, .int .i64 0],
   .nilf,
   .nilf,
   .nilf,
   .nilf,
   .nils,
   .nilf,
   .nilf,
   .tup [.nils, .int .i64 0],
   .nilf,
   .nilf,
   .nilf,
   .nilf,
   .nilf,
   .nilf,
   .nilf,
   .int .u64 0,
   .nilf,
   .nilf,
   .tup [.int .i64 0, .int .i64 0],
   .nilf,
   .nilf,
   .nilf,
   .nilf,
   .nilf,
   .nilf,
   .agg [.nilp, .nilp, .nilp, .str []],
   .agg [.nilp, .nilp, .nilp, .str []],
   .agg [],
   .agg [],
   .agg [],
   .nilf,
   .int .u32 0,
   .int .u8 0,
   .int .u8 0,
   .nilf,
   .nilp,
   .int .i32 0,
   .int .i32 0,
   .agg [.int .u64 0, .int .u64 0, .int .u32 0, .int .u8 0, .int .u8 0, .int .u8 0, .int .u8 0, .nilf, .nilp, .int .i32 0, .int .i32 0],
   .agg [.int .u64 0, .int .u64 0, .int .u32 0, .int .u8 0, .int .u8 0, .int .u8 0, .int .u8 0, .nilf, .nilp, .int .i32 0, .int .i32 0],
   .nilp]
theorem hT : PT Try.prog tt := ⟨ttL_ok 84 (by kernel_rfl) (by kernel_rfl) (by kernel_rfl), by kernel_rfl⟩
def ftl : List (Nat × Nat) := [(47, 23), (145, 16), (153, 25), (157, 32), (158, 33), (162, 27), (163, 3), (164, 7), (165, 8), (166, 9), (167, 4), (168, 11), (169, 10), (170, 5), (171, 12), (172, 13), (173, 14), (174, 15), (175, 17), (176, 18), (177, 19), (178, 6), (179, 20), (180, 21), (181, 22), (182, 26), (183, 29), (184, 28), (185, 30), (186, 31), (187, 24), (188, 34), (189, 35)]
def tyl : List (Nat × Nat) := [(0, 74), (4, 5), (10, 3), (20, 26), (22, 24), (23, 9), (24, 23), (46, 4)]
noncomputable def R : Env := { P := Try.prog, T := tt, ok := hT, ft := lkp ftl, ty := lkp tyl }
theorem h47 : R.Fn 47 c47 := ⟨by kernel_rfl⟩
theorem n47 : N47 R := ⟨h47⟩
theorem h145 : R.Fn 145 c145 := ⟨by kernel_rfl⟩
theorem n145 : N145 R := ⟨h145⟩
theorem h157 : R.Fn 157 c157 := ⟨by kernel_rfl⟩
theorem n157 : N157 R := ⟨h157⟩
theorem h158 : R.Fn 158 c158 := ⟨by kernel_rfl⟩
theorem n158 : N158 R := ⟨h158, n157⟩
theorem h153 : R.Fn 153 c153 := ⟨by kernel_rfl⟩
theorem n153 : N153 R := ⟨h153, n157, n158⟩
theorem h162 : R.Fn 162 c162 := ⟨by kernel_rfl⟩
theorem n162 : N162 R := ⟨h162⟩
theorem h188 : R.Fn 188 c188 := ⟨by kernel_rfl⟩
theorem n188 : N188 R := ⟨h188⟩
theorem h182 : R.Fn 182 c182 := ⟨by kernel_rfl⟩
theorem n182 : N182 R := ⟨h182, n188⟩
theorem h165 : R.Fn 165 c165 := ⟨by kernel_rfl⟩
theorem n165 : N165 R := ⟨h165, n153, n182⟩
theorem h168 : R.Fn 168 c168 := ⟨by kernel_rfl⟩
theorem n168 : N168 R := ⟨h168⟩
theorem h187 : R.Fn 187 c187 := ⟨by kernel_rfl⟩
theorem n187 : N187 R := ⟨h187⟩
theorem h164 : R.Fn 164 c164 := ⟨by kernel_rfl⟩
theorem n164 : N164 R := ⟨h164, n165, n168, n187⟩
theorem h166 : R.Fn 166 c166 := ⟨by kernel_rfl⟩
theorem n166 : N166 R := ⟨h166, n47, n164⟩
theorem h163 : R.Fn 163 c163 := ⟨by kernel_rfl⟩
theorem n163 : N163 R := ⟨h163, n164, n165, n166⟩
theorem h169 : R.Fn 169 c169 := ⟨by kernel_rfl⟩
theorem n169 : N169 R := ⟨h169⟩
theorem h167 : R.Fn 167 c167 := ⟨by kernel_rfl⟩
theorem n167 : N167 R := ⟨h167, n166, n168, n169⟩
theorem h171 : R.Fn 171 c171 := ⟨by kernel_rfl⟩
theorem n171 : N171 R := ⟨h171⟩
theorem h189 : R.Fn 189 c189 := ⟨by kernel_rfl⟩
theorem n189 : N189 R := ⟨h189⟩
theorem h183 : R.Fn 183 c183 := ⟨by kernel_rfl⟩
theorem n183 : N183 R := ⟨h183, n189⟩
theorem h184 : R.Fn 184 c184 := ⟨by kernel_rfl⟩
theorem n184 : N184 R := ⟨h184⟩
theorem h172 : R.Fn 172 c172 := ⟨by kernel_rfl⟩
theorem n172 : N172 R := ⟨h172, n162, n183, n184⟩
theorem h173 : R.Fn 173 c173 := ⟨by kernel_rfl⟩
theorem n173 : N173 R := ⟨h173, n153, n182⟩
theorem h174 : R.Fn 174 c174 := ⟨by kernel_rfl⟩
theorem n174 : N174 R := ⟨h174, n162, n183, n184⟩
theorem h175 : R.Fn 175 c175 := ⟨by kernel_rfl⟩
theorem n175 : N175 R := ⟨h175, n145⟩
theorem h176 : R.Fn 176 c176 := ⟨by kernel_rfl⟩
theorem n176 : N176 R := ⟨h176⟩
theorem h177 : R.Fn 177 c177 := ⟨by kernel_rfl⟩
theorem n177 : N177 R := ⟨h177⟩
theorem h170 : R.Fn 170 c170 := ⟨by kernel_rfl⟩
theorem n170 : N170 R := ⟨h170, n145, n165, n166, n168, n169, n171, n172, n173, n174, n175, n176, n177⟩
theorem h185 : R.Fn 185 c185 := ⟨by kernel_rfl⟩
theorem n185 : N185 R := ⟨h185⟩
theorem h186 : R.Fn 186 c186 := ⟨by kernel_rfl⟩
theorem n186 : N186 R := ⟨h186, n47, n164, n173⟩
theorem h179 : R.Fn 179 c179 := ⟨by kernel_rfl⟩
theorem n179 : N179 R := ⟨h179, n169, n185, n186⟩
theorem h180 : R.Fn 180 c180 := ⟨by kernel_rfl⟩
theorem n180 : N180 R := ⟨h180, n164⟩
theorem h181 : R.Fn 181 c181 := ⟨by kernel_rfl⟩
theorem n181 : N181 R := ⟨h181, n179⟩
theorem h178 : R.Fn 178 c178 := ⟨by kernel_rfl⟩
theorem n178 : N178 R := ⟨h178, n47, n164, n166, n171, n175, n179, n180, n181⟩
end Go.Proofs.Ytcdmkciicdngdaa
