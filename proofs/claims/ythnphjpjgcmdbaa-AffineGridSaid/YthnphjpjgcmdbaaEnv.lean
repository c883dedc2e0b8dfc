/- The program, as the machine has it: its types, its numbers, its functions. -/
import Derived.Test.YthnphjpjgcmdbaaU0
import Derived.Test.YthnphjpjgcmdbaaProg
namespace Go.Proofs.Ythnphjpjgcmdbaa
open Go.AM Go.UM
noncomputable def tt : TT := ttL
  [.tup,
   .func,
   .int .i64,
   .int .i64,
   .bool,
   .int .u8,
   .int .u8,
   .struct [(0, 2), (1, 3), (2, 4), (3, 6)],
   .struct [(0, 2), (1, 3), (2, 4), (3, 6)],
   .str,
   .str,
   .str,
   .int .u64,
   .struct [(0, 9), (1, 12)],
   .struct [(0, 9), (1, 12)],
   .ptr 97,
   .ptr 100,
   .ptr 110,
   .struct [(0, 17)],
   .struct [(0, 17)],
   .iface,
   .int .i32,
   .slice 24,
   .slice 26,
   .int .i64,
   .struct [(0, 24), (1, 24), (2, 24)],
   .struct [(0, 24), (1, 24), (2, 24)],
   .arr 9 24,
   .struct [(0, 27), (9, 26)],
   .struct [(0, 27), (9, 26)],
   .func,
   .func,
   .func,
   .func,
   .func,
   .func,
   .func,
   .func,
   .func,
   .int .i64,
   .func,
   .func,
   .func,
   .slice 29,
   .func,
   .func,
   .func,
   .struct [(0, 3), (1, 3), (2, 3)],
   .struct [(0, 3), (1, 3), (2, 3)],
   .tup,
   .func,
   .tup,
   .func,
   .func,
   .func,
   .func,
   .func,
   .int .i8,
   .arr 9 57,
   .int .i16,
   .arr 3 59,
   .arr 3 57,
   .func,
   .func,
   .arr 3 3,
   .func,
   .func,
   .func,
   .func,
   .func,
   .func,
   .func,
   .func,
   .func,
   .func,
   .func,
   .func,
   .int .u64,
   .struct [(0, 2), (1, 77)],
   .struct [(0, 2), (1, 77)],
   .func,
   .int .u64,
   .tup,
   .func,
   .tup,
   .func,
   .tup,
   .func,
   .tup,
   .func,
   .func,
   .func,
   .func,
   .func,
   .func,
   .func,
   .struct [(0, 17), (1, 17), (2, 17), (3, 9)],
   .struct [(0, 17), (1, 17), (2, 17), (3, 9)],
   .arr 0 16,
   .struct [(0, 98)],
   .struct [(0, 98)],
   .func,
   .int .u32,
   .int .u8,
   .int .u8,
   .func,
   .ptr 5,
   .int .i32,
   .int .i32,
   .struct [(0, 12), (1, 12), (2, 102), (3, 103), (4, 5), (5, 5), (6, 104), (7, 105), (8, 106), (9, 107), (10, 108)],
   .struct [(0, 12), (1, 12), (2, 102), (3, 103), (4, 5), (5, 5), (6, 104), (7, 105), (8, 106), (9, 107), (10, 108)],
   .other]
  [1, 1, 1, 1, 1, 1, 1, 4, 4, 1, 1, 1, 1, 2, 2, 1, 1, 1, 1, 1, 1, 1, 1, 1, 1, 3, 3, 9, 12, 12, 1, 1, 1, 1, 1, 1, 1, 1, 1, 1, 1, 1, 1, 1, 1, 1, 1, 3, 3, 1, 1, 1, 1, 1, 1, 1, 1, 1, 9, 1, 3, 3, 1, 1, 3, 1, 1, 1, 1, 1, 1, 1, 1, 1, 1, 1, 1, 1, 2, 2, 1, 1, 1, 1, 1, 1, 1, 1, 1, 1, 1, 1, 1, 1, 1, 1, 4, 4, 0, 0, 0, 1, 1, 1, 1, 1, 1, 1, 1, 11, 11, 1]
  [.tup [],
   .nilf,
   .int .i64 0,
   .int .i64 0,
   .bool false,
   .int .u8 0,
   .int .u8 0,
   .agg [.int .i64 0, .int .i64 0, .bool false, .int .u8 0],
   .agg [.int .i64 0, .int .i64 0, .bool false, .int .u8 0],
   .str [],
   .str [],
   .str [],
   .int .u64 0,
   .agg [.str [], .int .u64 0],
   .agg [.str [], .int .u64 0],
   .nilp,
   .nilp,
   .nilp,
   .agg [.nilp],
   .agg [.nilp],
   .nili,
   .int .i32 0,
   .nils,
   .nils,
   .int .i64 0,
   .agg [.int .i64 0, .int .i64 0, .int .i64 0],
   .agg [.int .i64 0, .int .i64 0, .int .i64 0],
   .agg [.int .i64 0, .int .i64 0, .int .i64 0, .int .i64 0, .int .i64 0, .int .i64 0, .int .i64 0, .int .i64 0, .int .i64 0],
   .agg [.int .i64 0, .int .i64 0, .int .i64 0, .int .i64 0, .int .i64 0, .int .i64 0, .int .i64 0, .int .i64 0, .int .i64 0, .int .i64 0, .int .i64 0, .int .i64 0],
   .agg [.int .i64 0, .int .i64 0, .int .i64 0, .int .i64 0, .int .i64 0, .int .i64 0, .int .i64 0, .int .i64 0, .int .i64 0, .int .i64 0, .int .i64 0, .int .i64 0],
   .nilf,
   .nilf,
   .nilf,
   .nilf,
   .nilf,
   .nilf,
   .nilf,
   .nilf,
   .nilf,
   .int .i64 0,
   .nilf,
   .nilf,
   .nilf,
   .nils,
   .nilf,
   .nilf,
   .nilf,
   .agg [.int .i64 0, .int .i64 0, .int .i64 0],
   .agg [.int .i64 0, .int .i64 0, .int .i64 0],
   .tup [.bad, .int .i64 0],
   .nilf,
   .tup [.bad, .int .i64 0],
   .nilf,
   .nilf,
   .nilf,
   .nilf,
   .nilf,
   .int .i8 0,
   .agg [.int .i8 0, .int .i8 0, .int .i8 0, .int .i8 0, .int .i8 0, .int .i8 0, .int .i8 0, .int .i8 0, .int .i8 0],
   .int .i16 0,
   .agg [.int .i16 0, .int .i16 0, .int .i16 0],
   .agg [.int .i8 0, .int .i8 0, .int .i8 0],
   .nilf,
   .nilf,
   .agg [.int .i64 0, .int .i64 0, .int .i64 0],
   .nilf,
   .nilf,
   .nilf,
   .nilf,
   .nilf,
   .nilf,
   .nilf,
   .nilf,
   .nilf,
   .nilf,
   .nilf,
   .nilf,
   .int .u64 0,
   .agg [.int .i64 0, .int .u64 0],
   .agg [.int .i64 0, .int .u64 0],
   .nilf,
   .int .u64 0,
   .tup [.int .i64 0, .bool false],
   .nilf,
   .tup [.int .u64 0, .bool false],
   .nilf,
   .tup [.int .u64 0, .int .u64 0],
   .nilf,
   .tup [.bad, .bool false],
   .nilf,
   .nilf,
   .nilf,
   .nilf,
   .nilf,
   .nilf,
   .nilf,
   .agg [.nilp, .nilp, .nilp, .str []],
   .agg [.nilp, .nilp, .nilp, .str []],
   .agg [],
   .agg [],
   .agg [],
   .nilf,
   .int .u32 0,
   .int .u8 0,
   .int .u8 0,
   .nilf,
   .nilp,
   .int .i32 0,
   .int .i32 0,
   .agg [.int .u64 0, .int .u64 0, .int .u32 0, .int .u8 0, .int .u8 0, .int .u8 0, .int .u8 0, .nilf, .nilp, .int .i32 0, .int .i32 0],
   .agg [.int .u64 0, .int .u64 0, .int .u32 0, .int .u8 0, .int .u8 0, .int .u8 0, .int .u8 0, .nilf, .nilp, .int .i32 0, .int .i32 0],
   .nilp]
theorem hT : PT Try.prog tt := ⟨ttL_ok 112 (by kernel_rfl) (by kernel_rfl) (by kernel_rfl), by kernel_rfl⟩
def ftl : List (Nat × Nat) := [(220, 3), (221, 10), (222, 11), (223, 12), (224, 13), (225, 14), (226, 15), (227, 16), (228, 17), (229, 18), (230, 4), (231, 19), (232, 20), (233, 21), (234, 22), (235, 23), (236, 24), (237, 5), (238, 25), (239, 26), (240, 6), (241, 27), (242, 28), (243, 29), (244, 30), (245, 7), (246, 31), (247, 8), (248, 32), (249, 33), (250, 9), (251, 35), (252, 34), (253, 36), (254, 37), (255, 38), (256, 39), (257, 40), (258, 41), (259, 42), (260, 43), (261, 44), (262, 45), (263, 46), (264, 49), (265, 48), (266, 50), (267, 47), (268, 52), (269, 51), (270, 53), (271, 54), (272, 55), (273, 56), (274, 57), (275, 58), (276, 59), (277, 60), (278, 61), (279, 63), (280, 64), (281, 65), (282, 66), (283, 67), (284, 62), (285, 68), (286, 69), (287, 70)]
def tyl : List (Nat × Nat) := [(0, 102), (4, 5), (6, 77), (10, 3), (13, 64), (23, 9), (26, 48), (31, 26), (32, 24), (33, 29), (34, 58), (35, 60), (36, 61), (37, 27), (38, 79), (46, 4)]
noncomputable def R : Env := { P := Try.prog, T := tt, ok := hT, ft := lkp ftl, ty := lkp tyl }
theorem h221 : R.Fn 221 c221 := ⟨by kernel_rfl⟩
theorem n221 : N221 R := ⟨h221⟩
theorem h222 : R.Fn 222 c222 := ⟨by kernel_rfl⟩
theorem n222 : N222 R := ⟨h222⟩
theorem h223 : R.Fn 223 c223 := ⟨by kernel_rfl⟩
theorem n223 : N223 R := ⟨h223, n221⟩
theorem h224 : R.Fn 224 c224 := ⟨by kernel_rfl⟩
theorem n224 : N224 R := ⟨h224, n222⟩
theorem h225 : R.Fn 225 c225 := ⟨by kernel_rfl⟩
theorem n225 : N225 R := ⟨h225, n221⟩
theorem h226 : R.Fn 226 c226 := ⟨by kernel_rfl⟩
theorem n226 : N226 R := ⟨h226, n222⟩
theorem h227 : R.Fn 227 c227 := ⟨by kernel_rfl⟩
theorem n227 : N227 R := ⟨h227, n221⟩
theorem h228 : R.Fn 228 c228 := ⟨by kernel_rfl⟩
theorem n228 : N228 R := ⟨h228, n222⟩
theorem h251 : R.Fn 251 c251 := ⟨by kernel_rfl⟩
theorem n251 : N251 R := ⟨h251⟩
theorem h262 : R.Fn 262 c262 := ⟨by kernel_rfl⟩
theorem n262 : N262 R := ⟨h262⟩
theorem h275 : R.Fn 275 c275 := ⟨by kernel_rfl⟩
theorem n275 : N275 R := ⟨h275⟩
theorem h276 : R.Fn 276 c276 := ⟨by kernel_rfl⟩
theorem n276 : N276 R := ⟨h276⟩
theorem h286 : R.Xn 286 "math/bits.Sub64" := ⟨by kernel_rfl⟩
theorem n286 : N286 R := ⟨h286⟩
theorem h283 : R.Fn 283 c283 := ⟨by kernel_rfl⟩
theorem n283 : N283 R := ⟨h283, n286⟩
theorem h277 : R.Fn 277 c277 := ⟨by kernel_rfl⟩
theorem n277 : N277 R := ⟨h277, n283⟩
theorem h264 : R.Fn 264 c264 := ⟨by kernel_rfl⟩
theorem n264 : N264 R := ⟨h264, n275, n276, n277⟩
theorem h274 : R.Fn 274 c274 := ⟨by kernel_rfl⟩
theorem n274 : N274 R := ⟨h274⟩
theorem h265 : R.Fn 265 c265 := ⟨by kernel_rfl⟩
theorem n265 : N265 R := ⟨h265, n274⟩
theorem h287 : R.Fn 287 c287 := ⟨by kernel_rfl⟩
theorem n287 : N287 R := ⟨h287⟩
theorem h285 : R.Fn 285 c285 := ⟨by kernel_rfl⟩
theorem n285 : N285 R := ⟨h285, n287⟩
theorem h284 : R.Fn 284 c284 := ⟨by kernel_rfl⟩
theorem n284 : N284 R := ⟨h284, n264, n265, n285⟩
theorem h278 : R.Fn 278 c278 := ⟨by kernel_rfl⟩
theorem n278 : N278 R := ⟨h278, n284⟩
theorem h266 : R.Fn 266 c266 := ⟨by kernel_rfl⟩
theorem n266 : N266 R := ⟨h266, n262, n278⟩
theorem h267 : R.Fn 267 c267 := ⟨by kernel_rfl⟩
theorem n267 : N267 R := ⟨h267⟩
theorem h252 : R.Fn 252 c252 := ⟨by kernel_rfl⟩
theorem n252 : N252 R := ⟨h252, n266, n267⟩
theorem h231 : R.Fn 231 c231 := ⟨by kernel_rfl⟩
theorem n231 : N231 R := ⟨h231, n251, n252⟩
theorem h263 : R.Fn 263 c263 := ⟨by kernel_rfl⟩
theorem n263 : N263 R := ⟨h263, n267⟩
theorem h246 : R.Fn 246 c246 := ⟨by kernel_rfl⟩
theorem n246 : N246 R := ⟨h246, n262, n263⟩
theorem h233 : R.Fn 233 c233 := ⟨by kernel_rfl⟩
theorem n233 : N233 R := ⟨h233, n231, n246⟩
theorem h258 : R.Fn 258 c258 := ⟨by kernel_rfl⟩
theorem n258 : N258 R := ⟨h258⟩
theorem h238 : R.Fn 238 c238 := ⟨by kernel_rfl⟩
theorem n238 : N238 R := ⟨h238, n221, n227, n231, n233, n258⟩
theorem h281 : R.Fn 281 c281 := ⟨by kernel_rfl⟩
theorem n281 : N281 R := ⟨h281⟩
theorem h270 : R.Fn 270 c270 := ⟨by kernel_rfl⟩
theorem n270 : N270 R := ⟨h270, n281⟩
theorem h255 : R.Fn 255 c255 := ⟨by kernel_rfl⟩
theorem n255 : N255 R := ⟨h255, n270⟩
theorem h256 : R.Fn 256 c256 := ⟨by kernel_rfl⟩
theorem n256 : N256 R := ⟨h256, n255⟩
theorem h235 : R.Fn 235 c235 := ⟨by kernel_rfl⟩
theorem n235 : N235 R := ⟨h235, n255, n256⟩
theorem h260 : R.Fn 260 c260 := ⟨by kernel_rfl⟩
theorem n260 : N260 R := ⟨h260⟩
theorem h243 : R.Fn 243 c243 := ⟨by kernel_rfl⟩
theorem n243 : N243 R := ⟨h243, n260⟩
theorem h248 : R.Fn 248 c248 := ⟨by kernel_rfl⟩
theorem n248 : N248 R := ⟨h248, n264, n265⟩
theorem h249 : R.Fn 249 c249 := ⟨by kernel_rfl⟩
theorem n249 : N249 R := ⟨h249, n248⟩
theorem h241 : R.Fn 241 c241 := ⟨by kernel_rfl⟩
theorem n241 : N241 R := ⟨h241, n233, n235, n243, n249⟩
theorem h229 : R.Fn 229 c229 := ⟨by kernel_rfl⟩
theorem n229 : N229 R := ⟨h229, n223, n225, n238, n241⟩
theorem h220 : R.Fn 220 c220 := ⟨by kernel_rfl⟩
theorem n220 : N220 R := ⟨h220, n221, n222, n223, n224, n225, n226, n227, n228, n229⟩
theorem h279 : R.Fn 279 c279 := ⟨by kernel_rfl⟩
theorem n279 : N279 R := ⟨h279⟩
theorem h280 : R.Fn 280 c280 := ⟨by kernel_rfl⟩
theorem n280 : N280 R := ⟨h280⟩
theorem h268 : R.Fn 268 c268 := ⟨by kernel_rfl⟩
theorem n268 : N268 R := ⟨h268, n276, n279, n280⟩
theorem h269 : R.Fn 269 c269 := ⟨by kernel_rfl⟩
theorem n269 : N269 R := ⟨h269, n279, n280⟩
theorem h253 : R.Fn 253 c253 := ⟨by kernel_rfl⟩
theorem n253 : N253 R := ⟨h253, n268, n269⟩
theorem h232 : R.Fn 232 c232 := ⟨by kernel_rfl⟩
theorem n232 : N232 R := ⟨h232, n253⟩
theorem h254 : R.Fn 254 c254 := ⟨by kernel_rfl⟩
theorem n254 : N254 R := ⟨h254, n269⟩
theorem h234 : R.Fn 234 c234 := ⟨by kernel_rfl⟩
theorem n234 : N234 R := ⟨h234, n232, n254⟩
theorem h282 : R.Fn 282 c282 := ⟨by kernel_rfl⟩
theorem n282 : N282 R := ⟨h282, n279, n280⟩
theorem h271 : R.Fn 271 c271 := ⟨by kernel_rfl⟩
theorem n271 : N271 R := ⟨h271, n282⟩
theorem h257 : R.Fn 257 c257 := ⟨by kernel_rfl⟩
theorem n257 : N257 R := ⟨h257, n271⟩
theorem h236 : R.Fn 236 c236 := ⟨by kernel_rfl⟩
theorem n236 : N236 R := ⟨h236, n257⟩
theorem h230 : R.Fn 230 c230 := ⟨by kernel_rfl⟩
theorem n230 : N230 R := ⟨h230, n229, n231, n232, n233, n234, n235, n236⟩
theorem h239 : R.Fn 239 c239 := ⟨by kernel_rfl⟩
theorem n239 : N239 R := ⟨h239, n222, n228, n232, n234⟩
theorem h237 : R.Fn 237 c237 := ⟨by kernel_rfl⟩
theorem n237 : N237 R := ⟨h237, n229, n238, n239⟩
theorem h273 : R.Fn 273 c273 := ⟨by kernel_rfl⟩
theorem n273 : N273 R := ⟨h273, n279⟩
theorem h261 : R.Fn 261 c261 := ⟨by kernel_rfl⟩
theorem n261 : N261 R := ⟨h261, n273⟩
theorem h244 : R.Fn 244 c244 := ⟨by kernel_rfl⟩
theorem n244 : N244 R := ⟨h244, n261⟩
theorem h272 : R.Fn 272 c272 := ⟨by kernel_rfl⟩
theorem n272 : N272 R := ⟨h272, n279, n280⟩
theorem h259 : R.Fn 259 c259 := ⟨by kernel_rfl⟩
theorem n259 : N259 R := ⟨h259, n272⟩
theorem h242 : R.Fn 242 c242 := ⟨by kernel_rfl⟩
theorem n242 : N242 R := ⟨h242, n234, n236, n244, n259⟩
theorem h240 : R.Fn 240 c240 := ⟨by kernel_rfl⟩
theorem n240 : N240 R := ⟨h240, n229, n241, n242, n243, n244⟩
theorem h245 : R.Fn 245 c245 := ⟨by kernel_rfl⟩
theorem n245 : N245 R := ⟨h245, n221, n223, n229, n231, n233, n238, n246⟩
theorem h247 : R.Fn 247 c247 := ⟨by kernel_rfl⟩
theorem n247 : N247 R := ⟨h247, n229, n241, n248, n249⟩
theorem h250 : R.Fn 250 c250 := ⟨by kernel_rfl⟩
theorem n250 : N250 R := ⟨h250, n221, n229, n241, n243, n249⟩
end Go.Proofs.Ythnphjpjgcmdbaa
