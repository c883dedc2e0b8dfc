/- The program, as the machine has it. -/
import Derived.Test.YtnfgjmbcfcnieaaGreatU0
import Derived.Test.YtnfgjmbcfcnieaaGreatProg
namespace Go.Proofs.YtnfgjmbcfcnieaaGreat
open Go.AM Go.UM
noncomputable def tt:TT:=Su
 [.aN,
  .func,
  .int .i64,
  .int .i64,
  .bool,
  .int .u8,
  .int .u8,
  .struct [(0,2),(1,3),(2,4),(3,6)],
  .struct [(0,2),(1,3),(2,4),(3,6)],
  .str,
  .str,
  .str,
  .int .u64,
  .struct [(0,9),(1,12)],
  .struct [(0,9),(1,12)],
  .ptr 287,
  .ptr 290,
  .ptr 299,
  .struct [(0,17)],
  .struct [(0,17)],
  .iface,
  .int .i32,
  .slice 53,
  .int .u64,
  .int .u32,
  .arr 8 5,
  .struct [(0,23),(1,3),(2,24),(3,25),(11,24),(12,24),(13,3),(14,3)],
  .struct [(0,23),(1,3),(2,24),(3,25),(11,24),(12,24),(13,3),(14,3)],
  .slice 39,
  .slice 74,
  .slice 35,
  .struct [(0,28),(1,29),(2,30)],
  .struct [(0,28),(1,29),(2,30)],
  .struct [(0,3),(1,30)],
  .struct [(0,3),(1,30)],
  .arr 3 3,
  .struct [(0,3),(1,35),(4,3)],
  .struct [(0,3),(1,35),(4,3)],
  .struct [(0,3),(1,3),(2,3)],
  .struct [(0,3),(1,3),(2,3)],
  .struct [(0,3),(1,35),(4,39),(7,39),(10,39)],
  .struct [(0,3),(1,35),(4,39),(7,39),(10,39)],
  .struct [(0,3),(1,32),(4,34),(6,37),(11,41)],
  .struct [(0,3),(1,32),(4,34),(6,37),(11,41)],
  .int .i64,
  .arr 9 44,
  .struct [(0,44),(1,44),(2,44)],
  .struct [(0,44),(1,44),(2,44)],
  .struct [(0,45),(9,47)],
  .struct [(0,45),(9,47)],
  .struct [(0,3),(1,3),(2,3),(3,3),(4,49)],
  .struct [(0,3),(1,3),(2,3),(3,3),(4,49)],
  .struct [(0,3),(1,3),(2,27),(17,43),(41,51)],
  .struct [(0,3),(1,3),(2,27),(17,43),(41,51)],
  .func,
  .ptr 90,
  .ptr 97,
  .aN,
  .func,
  .slice 77,
  .slice 37,
  .slice 34,
  .slice 41,
  .slice 23,
  .slice 24,
  .struct [(0,59),(1,60),(2,61),(3,62),(4,63),(5,64),(6,24),(7,24),(8,24)],
  .struct [(0,59),(1,60),(2,61),(3,62),(4,63),(5,64),(6,24),(7,24),(8,24)],
  .int .i64,
  .aN,
  .func,
  .func,
  .func,
  .func,
  .arr 3 39,
  .arr 2 3,
  .arr 3 74,
  .struct [(0,73),(9,75),(15,3),(16,3),(17,3),(18,5)],
  .struct [(0,73),(9,75),(15,3),(16,3),(17,3),(18,5)],
  .aN,
  .func,
  .func,
  .func,
  .slice 5,
  .func,
  .func,
  .aN,
  .func,
  .map 3 123,
  .map 137 49,
  .struct [(0,87),(1,88)],
  .struct [(0,87),(1,88)],
  .func,
  .func,
  .func,
  .slice 123,
  .slice 51,
  .struct [(0,94),(1,95)],
  .struct [(0,94),(1,95)],
  .func,
  .func,
  .func,
  .ptr 104,
  .map 3 3,
  .struct [(0,66),(9,87),(10,102),(11,102)],
  .struct [(0,66),(9,87),(10,102),(11,102)],
  .func,
  .func,
  .func,
  .func,
  .func,
  .func,
  .func,
  .func,
  .func,
  .ptr 116,
  .struct [(0,82)],
  .struct [(0,82)],
  .func,
  .func,
  .slice 3,
  .func,
  .func,
  .struct [(0,3),(1,27),(16,43)],
  .struct [(0,3),(1,27),(16,43)],
  .func,
  .func,
  .func,
  .aN,
  .func,
  .func,
  .func,
  .func,
  .func,
  .func,
  .func,
  .func,
  .struct [(0,3),(1,3),(2,3),(3,3)],
  .struct [(0,3),(1,3),(2,3),(3,3)],
  .func,
  .func,
  .aN,
  .func,
  .func,
  .func,
  .func,
  .func,
  .func,
  .func,
  .func,
  .func,
  .func,
  .aN,
  .aN,
  .aN,
  .func,
  .func,
  .aN,
  .aN,
  .func,
  .aN,
  .func,
  .func,
  .func,
  .func,
  .func,
  .func,
  .func,
  .func,
  .func,
  .func,
  .func,
  .slice 27,
  .arr 2 24,
  .func,
  .func,
  .func,
  .func,
  .func,
  .func,
  .func,
  .func,
  .func,
  .int .u64,
  .func,
  .func,
  .func,
  .func,
  .func,
  .func,
  .func,
  .func,
  .func,
  .func,
  .func,
  .func,
  .func,
  .func,
  .func,
  .func,
  .func,
  .func,
  .func,
  .func,
  .func,
  .func,
  .int .i64,
  .aN,
  .func,
  .func,
  .func,
  .func,
  .func,
  .func,
  .func,
  .func,
  .func,
  .func,
  .func,
  .func,
  .func,
  .func,
  .func,
  .func,
  .func,
  .arr 5 3,
  .func,
  .func,
  .slice 44,
  .func,
  .func,
  .func,
  .func,
  .func,
  .func,
  .func,
  .func,
  .func,
  .func,
  .func,
  .func,
  .func,
  .int .u64,
  .func,
  .func,
  .func,
  .ptr 3,
  .func,
  .slice 47,
  .func,
  .func,
  .func,
  .func,
  .struct [(0,2),(1,23)],
  .struct [(0,2),(1,23)],
  .func,
  .func,
  .func,
  .func,
  .func,
  .func,
  .func,
  .func,
  .func,
  .func,
  .func,
  .ptr 241,
  .func,
  .aN,
  .func,
  .aN,
  .func,
  .aN,
  .func,
  .aN,
  .func,
  .func,
  .func,
  .func,
  .func,
  .func,
  .func,
  .func,
  .func,
  .func,
  .func,
  .func,
  .struct [(0,17),(1,17),(2,17),(3,9)],
  .struct [(0,17),(1,17),(2,17),(3,9)],
  .arr 0 16,
  .struct [(0,288)],
  .struct [(0,288)],
  .func,
  .int .u8,
  .int .u8,
  .func,
  .ptr 5,
  .int .i32,
  .int .i32,
  .struct [(0,12),(1,12),(2,24),(3,292),(4,5),(5,5),(6,293),(7,294),(8,295),(9,296),(10,297)],
  .struct [(0,12),(1,12),(2,24),(3,292),(4,5),(5,5),(6,293),(7,294),(8,295),(9,296),(10,297)],
  .other]
 [1,1,1,1,1,1,1,4,4,1,1,1,1,2,2,1,1,1,1,1,1,1,1,1,1,8,15,15,1,1,1,3,3,2,2,3,5,5,3,3,13,13,24,24,1,9,3,3,12,12,16,16,57,57,1,1,1,1,1,1,1,1,1,1,1,9,9,1,1,1,1,1,1,9,2,6,19,19,1,1,1,1,1,1,1,1,1,1,1,2,2,1,1,1,1,1,2,2,1,1,1,1,1,12,12,1,1,1,1,1,1,1,1,1,1,1,1,1,1,1,1,1,40,40,1,1,1,1,1,1,1,1,1,1,1,1,4,4,1,1,1,1,1,1,1,1,1,1,1,1,1,1,1,1,1,1,1,1,1,1,1,1,1,1,1,1,1,1,1,1,1,1,2,1,1,1,1,1,1,1,1,1,1,1,1,1,1,1,1,1,1,1,1,1,1,1,1,1,1,1,1,1,1,1,1,1,1,1,1,1,1,1,1,1,1,1,1,1,1,1,1,1,1,1,5,1,1,1,1,1,1,1,1,1,1,1,1,1,1,1,1,1,1,1,1,1,1,1,1,1,1,1,2,2,1,1,1,1,1,1,1,1,1,1,1,1,1,1,1,1,1,1,1,1,1,1,1,1,1,1,1,1,1,1,1,1,4,4,0,0,0,1,1,1,1,1,1,1,11,11,1]
 [.aN [],
  .ap,
  .int .i64 0,
  .int .i64 0,
  .bool false,
  .int .u8 0,
  .int .u8 0,
  .agg [.int .i64 0,.int .i64 0,.bool false,.int .u8 0],
  .agg [.int .i64 0,.int .i64 0,.bool false,.int .u8 0],
  .str [],
  .str [],
  .str [],
  .int .u64 0,
  .agg [.str [],.int .u64 0],
  .agg [.str [],.int .u64 0],
  .bP,
  .bP,
  .bP,
  .agg [.bP],
  .agg [.bP],
  .dY,
  .int .i32 0,
  .ai,
  .int .u64 0,
  .int .u32 0,
  .agg [.int .u8 0,.int .u8 0,.int .u8 0,.int .u8 0,.int .u8 0,.int .u8 0,.int .u8 0,.int .u8 0],
  .agg [.int .u64 0,.int .i64 0,.int .u32 0,.int .u8 0,.int .u8 0,.int .u8 0,.int .u8 0,.int .u8 0,.int .u8 0,.int .u8 0,.int .u8 0,.int .u32 0,.int .u32 0,.int .i64 0,.int .i64 0],
  .agg [.int .u64 0,.int .i64 0,.int .u32 0,.int .u8 0,.int .u8 0,.int .u8 0,.int .u8 0,.int .u8 0,.int .u8 0,.int .u8 0,.int .u8 0,.int .u32 0,.int .u32 0,.int .i64 0,.int .i64 0],
  .ai,
  .ai,
  .ai,
  .agg [.ai,.ai,.ai],
  .agg [.ai,.ai,.ai],
  .agg [.int .i64 0,.ai],
  .agg [.int .i64 0,.ai],
  .agg [.int .i64 0,.int .i64 0,.int .i64 0],
  .agg [.int .i64 0,.int .i64 0,.int .i64 0,.int .i64 0,.int .i64 0],
  .agg [.int .i64 0,.int .i64 0,.int .i64 0,.int .i64 0,.int .i64 0],
  .agg [.int .i64 0,.int .i64 0,.int .i64 0],
  .agg [.int .i64 0,.int .i64 0,.int .i64 0],
  .agg [.int .i64 0,.int .i64 0,.int .i64 0,.int .i64 0,.int .i64 0,.int .i64 0,.int .i64 0,.int .i64 0,.int .i64 0,.int .i64 0,.int .i64 0,.int .i64 0,.int .i64 0],
  .agg [.int .i64 0,.int .i64 0,.int .i64 0,.int .i64 0,.int .i64 0,.int .i64 0,.int .i64 0,.int .i64 0,.int .i64 0,.int .i64 0,.int .i64 0,.int .i64 0,.int .i64 0],
  .agg [.int .i64 0,.ai,.ai,.ai,.int .i64 0,.ai,.int .i64 0,.int .i64 0,.int .i64 0,.int .i64 0,.int .i64 0,.int .i64 0,.int .i64 0,.int .i64 0,.int .i64 0,.int .i64 0,.int .i64 0,.int .i64 0,.int .i64 0,.int .i64 0,.int .i64 0,.int .i64 0,.int .i64 0,.int .i64 0],
  .agg [.int .i64 0,.ai,.ai,.ai,.int .i64 0,.ai,.int .i64 0,.int .i64 0,.int .i64 0,.int .i64 0,.int .i64 0,.int .i64 0,.int .i64 0,.int .i64 0,.int .i64 0,.int .i64 0,.int .i64 0,.int .i64 0,.int .i64 0,.int .i64 0,.int .i64 0,.int .i64 0,.int .i64 0,.int .i64 0],
  .int .i64 0,
  .agg [.int .i64 0,.int .i64 0,.int .i64 0,.int .i64 0,.int .i64 0,.int .i64 0,.int .i64 0,.int .i64 0,.int .i64 0],
  .agg [.int .i64 0,.int .i64 0,.int .i64 0],
  .agg [.int .i64 0,.int .i64 0,.int .i64 0],
  .agg [.int .i64 0,.int .i64 0,.int .i64 0,.int .i64 0,.int .i64 0,.int .i64 0,.int .i64 0,.int .i64 0,.int .i64 0,.int .i64 0,.int .i64 0,.int .i64 0],
  .agg [.int .i64 0,.int .i64 0,.int .i64 0,.int .i64 0,.int .i64 0,.int .i64 0,.int .i64 0,.int .i64 0,.int .i64 0,.int .i64 0,.int .i64 0,.int .i64 0],
  .agg [.int .i64 0,.int .i64 0,.int .i64 0,.int .i64 0,.int .i64 0,.int .i64 0,.int .i64 0,.int .i64 0,.int .i64 0,.int .i64 0,.int .i64 0,.int .i64 0,.int .i64 0,.int .i64 0,.int .i64 0,.int .i64 0],
  .agg [.int .i64 0,.int .i64 0,.int .i64 0,.int .i64 0,.int .i64 0,.int .i64 0,.int .i64 0,.int .i64 0,.int .i64 0,.int .i64 0,.int .i64 0,.int .i64 0,.int .i64 0,.int .i64 0,.int .i64 0,.int .i64 0],
  .agg [.int .i64 0,.int .i64 0,.int .u64 0,.int .i64 0,.int .u32 0,.int .u8 0,.int .u8 0,.int .u8 0,.int .u8 0,.int .u8 0,.int .u8 0,.int .u8 0,.int .u8 0,.int .u32 0,.int .u32 0,.int .i64 0,.int .i64 0,.int .i64 0,.ai,.ai,.ai,.int .i64 0,.ai,.int .i64 0,.int .i64 0,.int .i64 0,.int .i64 0,.int .i64 0,.int .i64 0,.int .i64 0,.int .i64 0,.int .i64 0,.int .i64 0,.int .i64 0,.int .i64 0,.int .i64 0,.int .i64 0,.int .i64 0,.int .i64 0,.int .i64 0,.int .i64 0,.int .i64 0,.int .i64 0,.int .i64 0,.int .i64 0,.int .i64 0,.int .i64 0,.int .i64 0,.int .i64 0,.int .i64 0,.int .i64 0,.int .i64 0,.int .i64 0,.int .i64 0,.int .i64 0,.int .i64 0,.int .i64 0],
  .agg [.int .i64 0,.int .i64 0,.int .u64 0,.int .i64 0,.int .u32 0,.int .u8 0,.int .u8 0,.int .u8 0,.int .u8 0,.int .u8 0,.int .u8 0,.int .u8 0,.int .u8 0,.int .u32 0,.int .u32 0,.int .i64 0,.int .i64 0,.int .i64 0,.ai,.ai,.ai,.int .i64 0,.ai,.int .i64 0,.int .i64 0,.int .i64 0,.int .i64 0,.int .i64 0,.int .i64 0,.int .i64 0,.int .i64 0,.int .i64 0,.int .i64 0,.int .i64 0,.int .i64 0,.int .i64 0,.int .i64 0,.int .i64 0,.int .i64 0,.int .i64 0,.int .i64 0,.int .i64 0,.int .i64 0,.int .i64 0,.int .i64 0,.int .i64 0,.int .i64 0,.int .i64 0,.int .i64 0,.int .i64 0,.int .i64 0,.int .i64 0,.int .i64 0,.int .i64 0,.int .i64 0,.int .i64 0,.int .i64 0],
  .ap,
  .bP,
  .bP,
  .aN [.bP,.bP],
  .ap,
  .ai,
  .ai,
  .ai,
  .ai,
  .ai,
  .ai,
  .agg [.ai,.ai,.ai,.ai,.ai,.ai,.int .u32 0,.int .u32 0,.int .u32 0],
  .agg [.ai,.ai,.ai,.ai,.ai,.ai,.int .u32 0,.int .u32 0,.int .u32 0],
  .int .i64 0,
  .aN [.bad,.int .i64 0],
  .ap,
  .ap,
  .ap,
  .ap,
  .agg [.int .i64 0,.int .i64 0,.int .i64 0,.int .i64 0,.int .i64 0,.int .i64 0,.int .i64 0,.int .i64 0,.int .i64 0],
  .agg [.int .i64 0,.int .i64 0],
  .agg [.int .i64 0,.int .i64 0,.int .i64 0,.int .i64 0,.int .i64 0,.int .i64 0],
  .agg [.int .i64 0,.int .i64 0,.int .i64 0,.int .i64 0,.int .i64 0,.int .i64 0,.int .i64 0,.int .i64 0,.int .i64 0,.int .i64 0,.int .i64 0,.int .i64 0,.int .i64 0,.int .i64 0,.int .i64 0,.int .i64 0,.int .i64 0,.int .i64 0,.int .u8 0],
  .agg [.int .i64 0,.int .i64 0,.int .i64 0,.int .i64 0,.int .i64 0,.int .i64 0,.int .i64 0,.int .i64 0,.int .i64 0,.int .i64 0,.int .i64 0,.int .i64 0,.int .i64 0,.int .i64 0,.int .i64 0,.int .i64 0,.int .i64 0,.int .i64 0,.int .u8 0],
  .aN [.int .i64 0,.int .i64 0],
  .ap,
  .ap,
  .ap,
  .ai,
  .ap,
  .ap,
  .aN [.bad,.int .i64 0],
  .ap,
  .ce,
  .ce,
  .agg [.ce,.ce],
  .agg [.ce,.ce],
  .ap,
  .ap,
  .ap,
  .ai,
  .ai,
  .agg [.ai,.ai],
  .agg [.ai,.ai],
  .ap,
  .ap,
  .ap,
  .bP,
  .ce,
  .agg [.ai,.ai,.ai,.ai,.ai,.ai,.int .u32 0,.int .u32 0,.int .u32 0,.ce,.ce,.ce],
  .agg [.ai,.ai,.ai,.ai,.ai,.ai,.int .u32 0,.int .u32 0,.int .u32 0,.ce,.ce,.ce],
  .ap,
  .ap,
  .ap,
  .ap,
  .ap,
  .ap,
  .ap,
  .ap,
  .ap,
  .bP,
  .agg [.ai],
  .agg [.ai],
  .ap,
  .ap,
  .ai,
  .ap,
  .ap,
  .agg [.int .i64 0,.int .u64 0,.int .i64 0,.int .u32 0,.int .u8 0,.int .u8 0,.int .u8 0,.int .u8 0,.int .u8 0,.int .u8 0,.int .u8 0,.int .u8 0,.int .u32 0,.int .u32 0,.int .i64 0,.int .i64 0,.int .i64 0,.ai,.ai,.ai,.int .i64 0,.ai,.int .i64 0,.int .i64 0,.int .i64 0,.int .i64 0,.int .i64 0,.int .i64 0,.int .i64 0,.int .i64 0,.int .i64 0,.int .i64 0,.int .i64 0,.int .i64 0,.int .i64 0,.int .i64 0,.int .i64 0,.int .i64 0,.int .i64 0,.int .i64 0],
  .agg [.int .i64 0,.int .u64 0,.int .i64 0,.int .u32 0,.int .u8 0,.int .u8 0,.int .u8 0,.int .u8 0,.int .u8 0,.int .u8 0,.int .u8 0,.int .u8 0,.int .u32 0,.int .u32 0,.int .i64 0,.int .i64 0,.int .i64 0,.ai,.ai,.ai,.int .i64 0,.ai,.int .i64 0,.int .i64 0,.int .i64 0,.int .i64 0,.int .i64 0,.int .i64 0,.int .i64 0,.int .i64 0,.int .i64 0,.int .i64 0,.int .i64 0,.int .i64 0,.int .i64 0,.int .i64 0,.int .i64 0,.int .i64 0,.int .i64 0,.int .i64 0],
  .ap,
  .ap,
  .ap,
  .aN [.bad,.int .i64 0],
  .ap,
  .ap,
  .ap,
  .ap,
  .ap,
  .ap,
  .ap,
  .ap,
  .agg [.int .i64 0,.int .i64 0,.int .i64 0,.int .i64 0],
  .agg [.int .i64 0,.int .i64 0,.int .i64 0,.int .i64 0],
  .ap,
  .ap,
  .aN [.int .u32 0,.int .u32 0],
  .ap,
  .ap,
  .ap,
  .ap,
  .ap,
  .ap,
  .ap,
  .ap,
  .ap,
  .ap,
  .aN [.bad,.bool false],
  .aN [.int .i64 0,.bool false],
  .aN [.bad,.int .i64 0],
  .ap,
  .ap,
  .aN [.bad,.bool false],
  .aN [.ai,.int .i64 0],
  .ap,
  .aN [.ai,.int .i64 0],
  .ap,
  .ap,
  .ap,
  .ap,
  .ap,
  .ap,
  .ap,
  .ap,
  .ap,
  .ap,
  .ap,
  .ai,
  .agg [.int .u32 0,.int .u32 0],
  .ap,
  .ap,
  .ap,
  .ap,
  .ap,
  .ap,
  .ap,
  .ap,
  .ap,
  .int .u64 0,
  .ap,
  .ap,
  .ap,
  .ap,
  .ap,
  .ap,
  .ap,
  .ap,
  .ap,
  .ap,
  .ap,
  .ap,
  .ap,
  .ap,
  .ap,
  .ap,
  .ap,
  .ap,
  .ap,
  .ap,
  .ap,
  .ap,
  .int .i64 0,
  .aN [.int .i64 0,.int .i64 0],
  .ap,
  .ap,
  .ap,
  .ap,
  .ap,
  .ap,
  .ap,
  .ap,
  .ap,
  .ap,
  .ap,
  .ap,
  .ap,
  .ap,
  .ap,
  .ap,
  .ap,
  .agg [.int .i64 0,.int .i64 0,.int .i64 0,.int .i64 0,.int .i64 0],
  .ap,
  .ap,
  .ai,
  .ap,
  .ap,
  .ap,
  .ap,
  .ap,
  .ap,
  .ap,
  .ap,
  .ap,
  .ap,
  .ap,
  .ap,
  .ap,
  .int .u64 0,
  .ap,
  .ap,
  .ap,
  .bP,
  .ap,
  .ai,
  .ap,
  .ap,
  .ap,
  .ap,
  .agg [.int .i64 0,.int .u64 0],
  .agg [.int .i64 0,.int .u64 0],
  .ap,
  .ap,
  .ap,
  .ap,
  .ap,
  .ap,
  .ap,
  .ap,
  .ap,
  .ap,
  .ap,
  .bP,
  .ap,
  .aN [.int .i64 0,.bool false],
  .ap,
  .aN [.int .u64 0,.bool false],
  .ap,
  .aN [.int .u64 0,.int .u64 0],
  .ap,
  .aN [.bad,.bool false],
  .ap,
  .ap,
  .ap,
  .ap,
  .ap,
  .ap,
  .ap,
  .ap,
  .ap,
  .ap,
  .ap,
  .ap,
  .agg [.bP,.bP,.bP,.str []],
  .agg [.bP,.bP,.bP,.str []],
  .agg [],
  .agg [],
  .agg [],
  .ap,
  .int .u8 0,
  .int .u8 0,
  .ap,
  .bP,
  .int .i32 0,
  .int .i32 0,
  .agg [.int .u64 0,.int .u64 0,.int .u32 0,.int .u8 0,.int .u8 0,.int .u8 0,.int .u8 0,.ap,.bP,.int .i32 0,.int .i32 0],
  .agg [.int .u64 0,.int .u64 0,.int .u32 0,.int .u8 0,.int .u8 0,.int .u8 0,.int .u8 0,.ap,.bP,.int .i32 0,.int .i32 0],
  .bP]
theorem hT:PT Tryz.prog tt:=⟨NO 301 (by kernel_rfl) (by kernel_rfl) (by kernel_rfl),by kernel_rfl⟩
def ftl:List (Nat × Nat):=[(4,54),(11,63),(12,53),(14,55),(16,80),(17,81),(18,82),(19,83),(37,102),(38,118),(47,16),(54,103),(55,105),(62,147),(63,104),(71,67),(72,68),(82,146),(83,156),(84,139),(85,113),(89,31),(100,186),(101,89),(106,204),(191,43),(193,138),(196,145),(197,155),(198,111),(206,180),(207,181),(208,182),(209,183),(210,184),(211,185),(212,157),(213,154),(217,201),(218,202),(219,203),(221,34),(231,136),(232,109),(233,96),(234,71),(235,94),(236,69),(241,64),(242,42),(243,95),(244,70),(246,135),(248,137),(249,97),(251,177),(252,176),(253,151),(254,108),(255,132),(256,133),(257,106),(259,72),(260,134),(261,107),(262,173),(263,174),(264,179),(265,178),(266,196),(267,175),(268,190),(269,150),(270,172),(271,148),(272,110),(273,149),(274,197),(275,198),(276,199),(277,200),(278,208),(279,152),(280,153),(281,195),(282,189),(283,210),(284,209),(285,212),(286,213),(287,214),(290,140),(291,115),(292,141),(293,116),(294,65),(295,76),(298,99),(307,187),(308,188),(309,98),(310,100),(311,101),(312,112),(313,114),(314,117),(315,142),(316,143),(317,144),(322,206),(323,205),(324,211),(345,21),(346,32),(347,33),(355,50),(356,58),(357,66),(358,62),(361,87),(362,88),(404,130),(418,27),(419,28),(420,22),(421,23),(427,45),(428,44),(430,25),(432,24),(433,57),(434,56),(435,59),(436,60),(437,74),(438,73),(439,51),(440,52),(441,46),(442,47),(443,48),(444,49),(445,84),(446,85),(447,86),(448,91),(449,90),(450,61),(451,93),(452,92),(454,75),(455,77),(456,78),(457,119),(458,120),(459,121),(460,122),(461,123),(462,124),(463,125),(464,126),(465,127),(466,128),(467,129),(468,131),(469,158),(470,159),(471,160),(472,161),(473,162),(474,163),(475,164),(476,165),(477,166),(478,167),(479,168),(480,169),(481,170),(482,171),(483,191),(484,192),(485,193),(486,194),(487,207),(488,3),(489,7),(490,8),(491,9),(492,10),(493,11),(494,4),(495,12),(496,13),(497,5),(498,14),(499,15),(500,17),(501,6),(502,18),(503,19),(504,20),(505,26),(506,29),(507,30),(508,35),(509,36),(510,37),(511,38),(512,39),(513,40),(514,41)]
def tyl:List (Nat × Nat):=[(0,24),(1,25),(2,27),(3,172),(4,5),(5,224),(6,23),(10,3),(12,34),(13,35),(14,61),(18,74),(22,119),(23,9),(25,32),(26,39),(28,73),(29,75),(31,47),(32,44),(33,49),(37,45),(38,253),(39,43),(40,37),(41,41),(44,51),(45,123),(46,4),(47,90),(48,94),(49,137),(51,82),(55,53),(56,97),(57,87),(58,241),(59,66),(60,77),(61,104),(62,116)]
noncomputable def R:Env:= {P:=Tryz.prog,T:=tt,ok:=hT,ft:=lkp ftl,ty:=lkp tyl}
theorem h16:R.Fn 16 c16:=⟨by kernel_rfl⟩
theorem n16:N16 R:=⟨h16⟩
theorem h17:R.Fn 17 c17:=⟨by kernel_rfl⟩
theorem n17:YS R:=⟨h17⟩
theorem h4:R.Fn 4 c4:=⟨by kernel_rfl⟩
theorem n4:N4 R:=⟨h4,n16,n17⟩
theorem J0:R.Fn 11 c11:=⟨by kernel_rfl⟩
theorem n11:YT R:=⟨J0⟩
theorem Jo:R.Fn 12 c12:=⟨by kernel_rfl⟩
theorem n12:N12 R:=⟨Jo,n11⟩
theorem h18:R.Fn 18 c18:=⟨by kernel_rfl⟩
theorem n18:N18 R:=⟨h18⟩
theorem h19:R.Fn 19 c19:=⟨by kernel_rfl⟩
theorem n19:YU R:=⟨h19⟩
theorem Z0:R.Fn 14 c14:=⟨by kernel_rfl⟩
theorem n14:N14 R:=⟨Z0,n18,n19⟩
theorem h37:R.Fn 37 c37:=⟨by kernel_rfl⟩
theorem n37:N37 R:=⟨h37⟩
theorem h38:R.Fn 38 c38:=⟨by kernel_rfl⟩
theorem n38:N38 R:=⟨h38⟩
theorem h62:R.Fn 62 c62:=⟨by kernel_rfl⟩
theorem n62:N62 R:=⟨h62⟩
theorem h54:R.Fn 54 c54:=⟨by kernel_rfl⟩
theorem Jt:Pg R:=⟨h54,n62⟩
theorem h63:R.Fn 63 c63:=⟨by kernel_rfl⟩
theorem Ju:YV R:=⟨h63⟩
theorem h55:R.Fn 55 c55:=⟨by kernel_rfl⟩
theorem M9:Wd R:=⟨h55,Ju⟩
theorem h71:R.Fn 71 c71:=⟨by kernel_rfl⟩
theorem RY:UV R:=⟨h71,Jt⟩
theorem h72:R.Fn 72 c72:=⟨by kernel_rfl⟩
theorem n72:N72 R:=⟨h72,M9,Ju⟩
theorem ab1:R.Fn 106 Tv:=⟨by kernel_rfl⟩
theorem n106:OA R:=⟨ab1⟩
theorem ab2:R.Fn 100 Tx:=⟨by kernel_rfl⟩
theorem n100:OB R:=⟨ab2,n106⟩
theorem h84:R.Fn 84 c84:=⟨by kernel_rfl⟩
theorem M8:YQ R:=⟨h84,n100⟩
theorem h82:R.Fn 82 c82:=⟨by kernel_rfl⟩
theorem YR:N82 R:=⟨h82,M8⟩
theorem h85:R.Fn 85 c85:=⟨by kernel_rfl⟩
theorem Na:YX R:=⟨h85⟩
theorem h83:R.Fn 83 c83:=⟨by kernel_rfl⟩
theorem YY:N83 R:=⟨h83,Na⟩
theorem h89:R.Fn 89 c89:=⟨by kernel_rfl⟩
theorem YZ:N89 R:=⟨h89⟩
theorem ab3:R.Fn 101 Tz:=⟨by kernel_rfl⟩
theorem n101:Ko R:=⟨ab3⟩
theorem ab4:R.Fn 191 VK:=⟨by kernel_rfl⟩
theorem n191:P0 R:=⟨ab4⟩
theorem ab5:R.Fn 206 UW:=⟨by kernel_rfl⟩
theorem n206:Ph R:=⟨ab5⟩
theorem ab6:R.Fn 207 UY:=⟨by kernel_rfl⟩
theorem n207:Pj R:=⟨ab6⟩
theorem ab7:R.Fn 208 U0:=⟨by kernel_rfl⟩
theorem n208:Pk R:=⟨ab7⟩
theorem ab8:R.Fn 217 TA:=⟨by kernel_rfl⟩
theorem n217:OD R:=⟨ab8⟩
theorem ab9:R.Fn 209 TC:=⟨by kernel_rfl⟩
theorem n209:OE R:=⟨ab9,n217⟩
theorem ab':R.Fn 218 TF:=⟨by kernel_rfl⟩
theorem n218:OF R:=⟨ab'⟩
theorem aca:R.Fn 210 TH:=⟨by kernel_rfl⟩
theorem n210:OG R:=⟨aca,n218⟩
theorem acb:R.Fn 219 TJ:=⟨by kernel_rfl⟩
theorem n219:OH R:=⟨acb⟩
theorem acd:R.Fn 211 TK:=⟨by kernel_rfl⟩
theorem n211:OI R:=⟨acd,n219⟩
theorem ace:R.Fn 193 U1:=⟨by kernel_rfl⟩
theorem n193:KJ R:=⟨ace,n206,n207,n208,n209,n210,n211⟩
theorem acf:R.Fn 196 U2:=⟨by kernel_rfl⟩
theorem n196:Pm R:=⟨acf,Jt,RY,n193⟩
theorem acg:R.Fn 213 Wf:=⟨by kernel_rfl⟩
theorem n213:K7 R:=⟨acg⟩
theorem ach:R.Fn 198 Wg:=⟨by kernel_rfl⟩
theorem n198:K8 R:=⟨ach,n213⟩
theorem aci:R.Fn 212 Wh:=⟨by kernel_rfl⟩
theorem n212:K9 R:=⟨aci,n72⟩
theorem acj:R.Fn 197 Wi:=⟨by kernel_rfl⟩
theorem n197:Qh R:=⟨acj,n198,n212⟩
theorem ack:R.Fn 221 UI:=⟨by kernel_rfl⟩
theorem n221:O' R:=⟨ack⟩
theorem acl:R.Fn 251 UK:=⟨by kernel_rfl⟩
theorem n251:Pa R:=⟨acl⟩
theorem acm:R.Fn 262 Uw:=⟨by kernel_rfl⟩
theorem n262:HC R:=⟨acm⟩
theorem acn:R.Fn 275 Ua:=⟨by kernel_rfl⟩
theorem n275:OS R:=⟨acn⟩
theorem aco:R.Fn 276 TL:=⟨by kernel_rfl⟩
theorem n276:Kq R:=⟨aco⟩
theorem acp:R.Xn 286 "math/bits.Sub64" :=⟨by kernel_rfl⟩
theorem n286:TM R:=⟨acp⟩
theorem acq:R.Fn 283 Ub:=⟨by kernel_rfl⟩
theorem n283:OU R:=⟨acq,n286⟩
theorem acr:R.Fn 277 Ud:=⟨by kernel_rfl⟩
theorem n277:OV R:=⟨acr,n283⟩
theorem acs:R.Fn 264 Uf:=⟨by kernel_rfl⟩
theorem n264:Kt R:=⟨acs,n275,n276,n277⟩
theorem acu:R.Fn 274 Ug:=⟨by kernel_rfl⟩
theorem n274:Ku R:=⟨acu⟩
theorem acv:R.Fn 265 Ul:=⟨by kernel_rfl⟩
theorem n265:Kw R:=⟨acv,n274⟩
theorem acw:R.Fn 287 Uh:=⟨by kernel_rfl⟩
theorem n287:Ui R:=⟨acw⟩
theorem acx:R.Fn 285 Uj:=⟨by kernel_rfl⟩
theorem n285:OX R:=⟨acx,n287⟩
theorem acy:R.Fn 284 Um:=⟨by kernel_rfl⟩
theorem n284:OZ R:=⟨acy,n264,n265,n285⟩
theorem acz:R.Fn 278 Ux:=⟨by kernel_rfl⟩
theorem n278:KD R:=⟨acz,n284⟩
theorem acA:R.Fn 266 Uy:=⟨by kernel_rfl⟩
theorem n266:O5 R:=⟨acA,n262,n278⟩
theorem acB:R.Fn 267 Uo:=⟨by kernel_rfl⟩
theorem n267:Ky R:=⟨acB⟩
theorem acC:R.Fn 252 UA:=⟨by kernel_rfl⟩
theorem n252:O6 R:=⟨acC,n266,n267⟩
theorem acD:R.Fn 231 UL:=⟨by kernel_rfl⟩
theorem n231:Pb R:=⟨acD,n251,n252⟩
theorem acE:R.Fn 279 VM:=⟨by kernel_rfl⟩
theorem n279:BG R:=⟨acE⟩
theorem acF:R.Fn 280 VN:=⟨by kernel_rfl⟩
theorem n280:EI R:=⟨acF⟩
theorem acG:R.Fn 268 VO:=⟨by kernel_rfl⟩
theorem n268:P1 R:=⟨acG,n276,n279,n280⟩
theorem acH:R.Fn 269 VP:=⟨by kernel_rfl⟩
theorem n269:K2 R:=⟨acH,n279,n280⟩
theorem acI:R.Fn 253 VW:=⟨by kernel_rfl⟩
theorem n253:P7 R:=⟨acI,n268,n269⟩
theorem acJ:R.Fn 232 V4:=⟨by kernel_rfl⟩
theorem n232:Qb R:=⟨acJ,n253⟩
theorem acK:R.Fn 263 UB:=⟨by kernel_rfl⟩
theorem n263:KG R:=⟨acK,n267⟩
theorem acL:R.Fn 246 UC:=⟨by kernel_rfl⟩
theorem n246:O7 R:=⟨acL,n262,n263⟩
theorem acM:R.Fn 233 UO:=⟨by kernel_rfl⟩
theorem n233:Pd R:=⟨acM,n231,n246⟩
theorem acN:R.Fn 254 VX:=⟨by kernel_rfl⟩
theorem n254:P8 R:=⟨acN,n269⟩
theorem acO:R.Fn 234 V6:=⟨by kernel_rfl⟩
theorem n234:Qc R:=⟨acO,n232,n254⟩
theorem acP:R.Fn 281 Up:=⟨by kernel_rfl⟩
theorem n281:O1 R:=⟨acP⟩
theorem acQ:R.Fn 270 Ur:=⟨by kernel_rfl⟩
theorem n270:O2 R:=⟨acQ,n281⟩
theorem acR:R.Fn 255 Ut:=⟨by kernel_rfl⟩
theorem n255:Kz R:=⟨acR,n270⟩
theorem acS:R.Fn 256 UE:=⟨by kernel_rfl⟩
theorem n256:O8 R:=⟨acS,n255⟩
theorem acT:R.Fn 235 UQ:=⟨by kernel_rfl⟩
theorem n235:Pe R:=⟨acT,n255,n256⟩
theorem acU:R.Fn 282 VQ:=⟨by kernel_rfl⟩
theorem n282:P3 R:=⟨acU,n279,n280⟩
theorem acV:R.Fn 271 VZ:=⟨by kernel_rfl⟩
theorem n271:P9 R:=⟨acV,n282⟩
theorem acW:R.Fn 257 V0:=⟨by kernel_rfl⟩
theorem n257:P' R:=⟨acW,n271⟩
theorem acX:R.Fn 236 V8:=⟨by kernel_rfl⟩
theorem n236:Qd R:=⟨acX,n257⟩
theorem acY:R.Fn 260 Uu:=⟨by kernel_rfl⟩
theorem n260:O3 R:=⟨acY⟩
theorem acZ:R.Fn 243 US:=⟨by kernel_rfl⟩
theorem n243:Pf R:=⟨acZ,n260⟩
theorem ac0:R.Fn 248 Uv:=⟨by kernel_rfl⟩
theorem n248:O4 R:=⟨ac0,n264,n265⟩
theorem ac1:R.Fn 249 UG:=⟨by kernel_rfl⟩
theorem n249:O9 R:=⟨ac1,n248⟩
theorem ac2:R.Fn 241 UU:=⟨by kernel_rfl⟩
theorem n241:KI R:=⟨ac2,n233,n235,n243,n249⟩
theorem ac3:R.Fn 273 VS:=⟨by kernel_rfl⟩
theorem n273:P4 R:=⟨ac3,n279⟩
theorem ac4:R.Fn 261 VU:=⟨by kernel_rfl⟩
theorem n261:P5 R:=⟨ac4,n273⟩
theorem ac5:R.Fn 244 V':=⟨by kernel_rfl⟩
theorem n244:Qe R:=⟨ac5,n261⟩
theorem ac6:R.Fn 272 VV:=⟨by kernel_rfl⟩
theorem n272:P6 R:=⟨ac6,n279,n280⟩
theorem ac7:R.Fn 259 V2:=⟨by kernel_rfl⟩
theorem n259:Qa R:=⟨ac7,n272⟩
theorem ac8:R.Fn 242 Wb:=⟨by kernel_rfl⟩
theorem n242:Qf R:=⟨ac8,n234,n236,n244,n259⟩
theorem ac9:R.Fn 322 U4:=⟨by kernel_rfl⟩
theorem n322:Pn R:=⟨ac9⟩
theorem ac':R.Fn 324 TO:=⟨by kernel_rfl⟩
theorem n324:OK R:=⟨ac'⟩
theorem ada:R.Fn 323 TP:=⟨by kernel_rfl⟩
theorem n323:OL R:=⟨ada,n324⟩
theorem adb:R.Fn 307 U5:=⟨by kernel_rfl⟩
theorem n307:KK R:=⟨adb,n322,n323⟩
theorem ade:R.Fn 290 U6:=⟨by kernel_rfl⟩
theorem n290:Po R:=⟨ade,n307⟩
theorem adf:R.Fn 291 Wl:=⟨by kernel_rfl⟩
theorem n291:Qi R:=⟨adf⟩
theorem adg:R.Fn 308 U8:=⟨by kernel_rfl⟩
theorem n308:Pp R:=⟨adg⟩
theorem adh:R.Fn 292 U9:=⟨by kernel_rfl⟩
theorem n292:Pq R:=⟨adh,n307,n308⟩
theorem adi:R.Fn 293 Wn:=⟨by kernel_rfl⟩
theorem n293:Qj R:=⟨adi,n213⟩
theorem adj:R.Fn 315 Va:=⟨by kernel_rfl⟩
theorem n315:Pr R:=⟨adj⟩
theorem adk:R.Fn 316 Vc:=⟨by kernel_rfl⟩
theorem n316:Ps R:=⟨adk⟩
theorem adl:R.Fn 317 Ve:=⟨by kernel_rfl⟩
theorem n317:Pt R:=⟨adl⟩
theorem adm:R.Fn 298 Vf:=⟨by kernel_rfl⟩
theorem n298:Pv R:=⟨adm,n315,n316,n317⟩
theorem adn:R.Fn 309 Vh:=⟨by kernel_rfl⟩
theorem n309:Pw R:=⟨adn,M8,n193,n290,n292⟩
theorem ado:R.Fn 310 Vj:=⟨by kernel_rfl⟩
theorem n310:Px R:=⟨ado⟩
theorem adp:R.Fn 311 Vl:=⟨by kernel_rfl⟩
theorem n311:Py R:=⟨adp,Jt,RY,YR,n196⟩
theorem adq:R.Fn 294 Vn:=⟨by kernel_rfl⟩
theorem n294:PA R:=⟨adq,n37,n298,n309,n310,n311⟩
theorem ads:R.Fn 312 Wp:=⟨by kernel_rfl⟩
theorem n312:Qk R:=⟨ads⟩
theorem adt:R.Fn 313 Wq:=⟨by kernel_rfl⟩
theorem n313:Ql R:=⟨adt⟩
theorem adu:R.Fn 314 Wr:=⟨by kernel_rfl⟩
theorem n314:Qm R:=⟨adu,M9,YY,n197,n212⟩
theorem adv:R.Fn 295 Ws:=⟨by kernel_rfl⟩
theorem n295:Qn R:=⟨adv,n38,Na,n198,n291,n293,n312,n313,n314⟩
theorem adw:R.Fn 345 Vq:=⟨by kernel_rfl⟩
theorem n345:KN R:=⟨adw⟩
theorem adx:R.Fn 355 Vr:=⟨by kernel_rfl⟩
theorem j9:xP R:=⟨adx⟩
theorem ady:R.Fn 361 TQ:=⟨by kernel_rfl⟩
theorem KR:Kr R:=⟨ady⟩
theorem adz:R.Fn 362 TS:=⟨by kernel_rfl⟩
theorem KT:Ks R:=⟨adz⟩
theorem adA:R.Fn 356 Vs:=⟨by kernel_rfl⟩
theorem vk:KO R:=⟨adA,n101,KR,KT⟩
theorem adB:R.Fn 346 Vt:=⟨by kernel_rfl⟩
theorem n346:KU R:=⟨adB,n294,j9,vk⟩
theorem adC:R.Fn 357 Vu:=⟨by kernel_rfl⟩
theorem PC:PB R:=⟨adC⟩
theorem adD:R.Fn 358 Vv:=⟨by kernel_rfl⟩
theorem lX:HE R:=⟨adD⟩
theorem adE:R.Fn 347 Vx:=⟨by kernel_rfl⟩
theorem EK:KV R:=⟨adE,n241,j9,PC,lX⟩
theorem adF:R.Fn 447 TV:=⟨by kernel_rfl⟩
theorem TY:TW R:=⟨adF⟩
theorem adG:R.Fn 433 TX:=⟨by kernel_rfl⟩
theorem PE:OM R:=⟨adG,TY⟩
theorem adH:R.As 434:=⟨by kernel_rfl⟩
theorem PF:TZ R:=⟨adH⟩
theorem adI:R.Fn 418 Vy:=⟨by kernel_rfl⟩
theorem PV:PD R:=⟨adI,j9,vk,PE,PF⟩
theorem adJ:R.As 435:=⟨by kernel_rfl⟩
theorem KY:T0 R:=⟨adJ⟩
theorem adK:R.Fn 468 T4:=⟨by kernel_rfl⟩
theorem EG:ON R:=⟨adK⟩
theorem adL:R.Fn 451 T5:=⟨by kernel_rfl⟩
theorem vm:OP R:=⟨adL,EG⟩
theorem adM:R.Fn 452 T6:=⟨by kernel_rfl⟩
theorem KW:OQ R:=⟨adM⟩
theorem adN:R.Fn 450 Vz:=⟨by kernel_rfl⟩
theorem KX:PG R:=⟨adN,vm,KW⟩
theorem adO:R.Fn 436 VB:=⟨by kernel_rfl⟩
theorem PJ:PH R:=⟨adO,lX,KX⟩
theorem adP:R.Fn 419 VC:=⟨by kernel_rfl⟩
theorem PW:PI R:=⟨adP,j9,KY,PJ⟩
theorem adQ:R.Fn 420 WC:=⟨by kernel_rfl⟩
theorem Lf:Qs R:=⟨adQ,n191⟩
theorem adR:R.Fn 427 VD:=⟨by kernel_rfl⟩
theorem Qu:PK R:=⟨adR,j9,lX⟩
theorem adS:R.Fn 437 VE:=⟨by kernel_rfl⟩
theorem PM:KZ R:=⟨adS⟩
theorem adT:R.Fn 438 T8:=⟨by kernel_rfl⟩
theorem PN:OR R:=⟨adT⟩
theorem adU:R.Fn 428 VF:=⟨by kernel_rfl⟩
theorem Qv:PL R:=⟨adU,j9,PM,PN⟩
theorem adV:R.Fn 421 WE:=⟨by kernel_rfl⟩
theorem QG:Qt R:=⟨adV,n346,EK,Qu,Qv⟩
theorem adW:R.As 439:=⟨by kernel_rfl⟩
theorem PP:T9 R:=⟨adW⟩
theorem adX:R.As 440:=⟨by kernel_rfl⟩
theorem PQ:T' R:=⟨adX⟩
theorem adY:R.Fn 430 VG:=⟨by kernel_rfl⟩
theorem PX:PO R:=⟨adY,j9,PP,PQ⟩
theorem adZ:R.Fn 454 Wu:=⟨by kernel_rfl⟩
theorem tV:HH R:=⟨adZ⟩
theorem ad0:R.Fn 441 Wv:=⟨by kernel_rfl⟩
theorem Qx:Qo R:=⟨ad0,n295,tV⟩
theorem ad1:R.Fn 442 Ww:=⟨by kernel_rfl⟩
theorem Qy:Qp R:=⟨ad1,tV⟩
theorem ad2:R.Fn 456 Wx:=⟨by kernel_rfl⟩
theorem pD:Lc R:=⟨ad2⟩
theorem ad3:R.Fn 455 Wy:=⟨by kernel_rfl⟩
theorem zP:Ld R:=⟨ad3,pD⟩
theorem ad4:R.Fn 443 WA:=⟨by kernel_rfl⟩
theorem Qz:Qq R:=⟨ad4,n242,tV,zP,pD⟩
theorem ad5:R.Fn 444 WB:=⟨by kernel_rfl⟩
theorem QA:Qr R:=⟨ad5,zP⟩
theorem ad6:R.Fn 432 WF:=⟨by kernel_rfl⟩
theorem QH:Qw R:=⟨ad6,Qx,Qy,Qz,QA⟩
theorem ad7:R.Fn 504 WK:=⟨by kernel_rfl⟩
theorem zQ:QD R:=⟨ad7⟩
theorem ad8:R.Fn 489 WL:=⟨by kernel_rfl⟩
theorem Lg:QE R:=⟨ad8,zQ⟩
theorem ad9:R.Fn 490 WN:=⟨by kernel_rfl⟩
theorem Lh:QF R:=⟨ad9,n345,Lf,QG,QH⟩
theorem ad':R.Fn 505 VH:=⟨by kernel_rfl⟩
theorem PY:PR R:=⟨ad',n4,n12,n14⟩
theorem aea:R.Fn 506 VI:=⟨by kernel_rfl⟩
theorem PZ:PU R:=⟨aea,n11,n241⟩
theorem aeb:R.Fn 491 VJ:=⟨by kernel_rfl⟩
theorem BI:K0 R:=⟨aeb,PV,PW,PX,PY,PZ⟩
theorem aec:R.Fn 507 WG:=⟨by kernel_rfl⟩
theorem Le:QB R:=⟨aec⟩
theorem aed:R.Fn 492 WI:=⟨by kernel_rfl⟩
theorem Li:QC R:=⟨aed,YZ,Le⟩
theorem aee:R.Fn 493 WO:=⟨by kernel_rfl⟩
theorem Lj:QI R:=⟨aee,n221,n345,n346,EK,BI⟩
theorem aef:R.Fn 488 WQ:=⟨by kernel_rfl⟩
theorem aeg:WR R:=⟨aef,Lg,Lh,BI,Li,Lj⟩
end Go.Proofs.YtnfgjmbcfcnieaaGreat
