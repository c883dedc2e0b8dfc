/- The program, as the machine has it. -/
import Derived.Test.YtnfgjmbcfcnieaaGreatU0
import Derived.Test.YtnfgjmbcfcnieaaGreatProg
namespace Go.Proofs.YtnfgjmbcfcnieaaGreat
open Go.AM Go.UM
noncomputable def tt:TT:=Tf
 [.aQ,
  .func,
  .int .i64,
  .int .i64,
  .bool,
  .int .u8,
  .int .u8,
  .struct [(0,2),(1,3),(2,4),(3,6)],
  .struct [(0,2),(1,3),(2,4),(3,6)],
  .str,
  .str,
  .str,
  .int .u64,
  .struct [(0,9),(1,12)],
  .struct [(0,9),(1,12)],
  .ptr 287,
  .ptr 290,
  .ptr 299,
  .struct [(0,17)],
  .struct [(0,17)],
  .iface,
  .int .i32,
  .slice 53,
  .int .u64,
  .int .u32,
  .arr 8 5,
  .struct [(0,23),(1,3),(2,24),(3,25),(11,24),(12,24),(13,3),(14,3)],
  .struct [(0,23),(1,3),(2,24),(3,25),(11,24),(12,24),(13,3),(14,3)],
  .slice 39,
  .slice 74,
  .slice 35,
  .struct [(0,28),(1,29),(2,30)],
  .struct [(0,28),(1,29),(2,30)],
  .struct [(0,3),(1,30)],
  .struct [(0,3),(1,30)],
  .arr 3 3,
  .struct [(0,3),(1,35),(4,3)],
  .struct [(0,3),(1,35),(4,3)],
  .struct [(0,3),(1,3),(2,3)],
  .struct [(0,3),(1,3),(2,3)],
  .struct [(0,3),(1,35),(4,39),(7,39),(10,39)],
  .struct [(0,3),(1,35),(4,39),(7,39),(10,39)],
  .struct [(0,3),(1,32),(4,34),(6,37),(11,41)],
  .struct [(0,3),(1,32),(4,34),(6,37),(11,41)],
  .int .i64,
  .arr 9 44,
  .struct [(0,44),(1,44),(2,44)],
  .struct [(0,44),(1,44),(2,44)],
  .struct [(0,45),(9,47)],
  .struct [(0,45),(9,47)],
  .struct [(0,3),(1,3),(2,3),(3,3),(4,49)],
  .struct [(0,3),(1,3),(2,3),(3,3),(4,49)],
  .struct [(0,3),(1,3),(2,27),(17,43),(41,51)],
  .struct [(0,3),(1,3),(2,27),(17,43),(41,51)],
  .func,
  .ptr 90,
  .ptr 97,
  .aQ,
  .func,
  .slice 77,
  .slice 37,
  .slice 34,
  .slice 41,
  .slice 23,
  .slice 24,
  .struct [(0,59),(1,60),(2,61),(3,62),(4,63),(5,64),(6,24),(7,24),(8,24)],
  .struct [(0,59),(1,60),(2,61),(3,62),(4,63),(5,64),(6,24),(7,24),(8,24)],
  .int .i64,
  .aQ,
  .func,
  .func,
  .func,
  .func,
  .arr 3 39,
  .arr 2 3,
  .arr 3 74,
  .struct [(0,73),(9,75),(15,3),(16,3),(17,3),(18,5)],
  .struct [(0,73),(9,75),(15,3),(16,3),(17,3),(18,5)],
  .aQ,
  .func,
  .func,
  .func,
  .slice 5,
  .func,
  .func,
  .aQ,
  .func,
  .map 3 123,
  .map 137 49,
  .struct [(0,87),(1,88)],
  .struct [(0,87),(1,88)],
  .func,
  .func,
  .func,
  .slice 123,
  .slice 51,
  .struct [(0,94),(1,95)],
  .struct [(0,94),(1,95)],
  .func,
  .func,
  .func,
  .ptr 104,
  .map 3 3,
  .struct [(0,66),(9,87),(10,102),(11,102)],
  .struct [(0,66),(9,87),(10,102),(11,102)],
  .func,
  .func,
  .func,
  .func,
  .func,
  .func,
  .func,
  .func,
  .func,
  .ptr 116,
  .struct [(0,82)],
  .struct [(0,82)],
  .func,
  .func,
  .slice 3,
  .func,
  .func,
  .struct [(0,3),(1,27),(16,43)],
  .struct [(0,3),(1,27),(16,43)],
  .func,
  .func,
  .func,
  .aQ,
  .func,
  .func,
  .func,
  .func,
  .func,
  .func,
  .func,
  .func,
  .struct [(0,3),(1,3),(2,3),(3,3)],
  .struct [(0,3),(1,3),(2,3),(3,3)],
  .func,
  .func,
  .aQ,
  .func,
  .func,
  .func,
  .func,
  .func,
  .func,
  .func,
  .func,
  .func,
  .func,
  .aQ,
  .aQ,
  .aQ,
  .func,
  .func,
  .aQ,
  .aQ,
  .func,
  .aQ,
  .func,
  .func,
  .func,
  .func,
  .func,
  .func,
  .func,
  .func,
  .func,
  .func,
  .func,
  .slice 27,
  .arr 2 24,
  .func,
  .func,
  .func,
  .func,
  .func,
  .func,
  .func,
  .func,
  .func,
  .int .u64,
  .func,
  .func,
  .func,
  .func,
  .func,
  .func,
  .func,
  .func,
  .func,
  .func,
  .func,
  .func,
  .func,
  .func,
  .func,
  .func,
  .func,
  .func,
  .func,
  .func,
  .func,
  .func,
  .int .i64,
  .aQ,
  .func,
  .func,
  .func,
  .func,
  .func,
  .func,
  .func,
  .func,
  .func,
  .func,
  .func,
  .func,
  .func,
  .func,
  .func,
  .func,
  .func,
  .arr 5 3,
  .func,
  .func,
  .slice 44,
  .func,
  .func,
  .func,
  .func,
  .func,
  .func,
  .func,
  .func,
  .func,
  .func,
  .func,
  .func,
  .func,
  .int .u64,
  .func,
  .func,
  .func,
  .ptr 3,
  .func,
  .slice 47,
  .func,
  .func,
  .func,
  .func,
  .struct [(0,2),(1,23)],
  .struct [(0,2),(1,23)],
  .func,
  .func,
  .func,
  .func,
  .func,
  .func,
  .func,
  .func,
  .func,
  .func,
  .func,
  .ptr 241,
  .func,
  .aQ,
  .func,
  .aQ,
  .func,
  .aQ,
  .func,
  .aQ,
  .func,
  .func,
  .func,
  .func,
  .func,
  .func,
  .func,
  .func,
  .func,
  .func,
  .func,
  .func,
  .struct [(0,17),(1,17),(2,17),(3,9)],
  .struct [(0,17),(1,17),(2,17),(3,9)],
  .arr 0 16,
  .struct [(0,288)],
  .struct [(0,288)],
  .func,
  .int .u8,
  .int .u8,
  .func,
  .ptr 5,
  .int .i32,
  .int .i32,
  .struct [(0,12),(1,12),(2,24),(3,292),(4,5),(5,5),(6,293),(7,294),(8,295),(9,296),(10,297)],
  .struct [(0,12),(1,12),(2,24),(3,292),(4,5),(5,5),(6,293),(7,294),(8,295),(9,296),(10,297)],
  .other]
 [1,1,1,1,1,1,1,4,4,1,1,1,1,2,2,1,1,1,1,1,1,1,1,1,1,8,15,15,1,1,1,3,3,2,2,3,5,5,3,3,13,13,24,24,1,9,3,3,12,12,16,16,57,57,1,1,1,1,1,1,1,1,1,1,1,9,9,1,1,1,1,1,1,9,2,6,19,19,1,1,1,1,1,1,1,1,1,1,1,2,2,1,1,1,1,1,2,2,1,1,1,1,1,12,12,1,1,1,1,1,1,1,1,1,1,1,1,1,1,1,1,1,40,40,1,1,1,1,1,1,1,1,1,1,1,1,4,4,1,1,1,1,1,1,1,1,1,1,1,1,1,1,1,1,1,1,1,1,1,1,1,1,1,1,1,1,1,1,1,1,1,1,2,1,1,1,1,1,1,1,1,1,1,1,1,1,1,1,1,1,1,1,1,1,1,1,1,1,1,1,1,1,1,1,1,1,1,1,1,1,1,1,1,1,1,1,1,1,1,1,1,1,1,1,5,1,1,1,1,1,1,1,1,1,1,1,1,1,1,1,1,1,1,1,1,1,1,1,1,1,1,1,2,2,1,1,1,1,1,1,1,1,1,1,1,1,1,1,1,1,1,1,1,1,1,1,1,1,1,1,1,1,1,1,1,1,4,4,0,0,0,1,1,1,1,1,1,1,11,11,1]
 [.aQ [],
  .aw,
  .int .i64 0,
  .int .i64 0,
  .bool false,
  .int .u8 0,
  .int .u8 0,
  .agg [.int .i64 0,.int .i64 0,.bool false,.int .u8 0],
  .agg [.int .i64 0,.int .i64 0,.bool false,.int .u8 0],
  .str [],
  .str [],
  .str [],
  .int .u64 0,
  .agg [.str [],.int .u64 0],
  .agg [.str [],.int .u64 0],
  .bM,
  .bM,
  .bM,
  .agg [.bM],
  .agg [.bM],
  .ep,
  .int .i32 0,
  .ai,
  .int .u64 0,
  .int .u32 0,
  .agg [.int .u8 0,.int .u8 0,.int .u8 0,.int .u8 0,.int .u8 0,.int .u8 0,.int .u8 0,.int .u8 0],
  .agg [.int .u64 0,.int .i64 0,.int .u32 0,.int .u8 0,.int .u8 0,.int .u8 0,.int .u8 0,.int .u8 0,.int .u8 0,.int .u8 0,.int .u8 0,.int .u32 0,.int .u32 0,.int .i64 0,.int .i64 0],
  .agg [.int .u64 0,.int .i64 0,.int .u32 0,.int .u8 0,.int .u8 0,.int .u8 0,.int .u8 0,.int .u8 0,.int .u8 0,.int .u8 0,.int .u8 0,.int .u32 0,.int .u32 0,.int .i64 0,.int .i64 0],
  .ai,
  .ai,
  .ai,
  .agg [.ai,.ai,.ai],
  .agg [.ai,.ai,.ai],
  .agg [.int .i64 0,.ai],
  .agg [.int .i64 0,.ai],
  .agg [.int .i64 0,.int .i64 0,.int .i64 0],
  .agg [.int .i64 0,.int .i64 0,.int .i64 0,.int .i64 0,.int .i64 0],
  .agg [.int .i64 0,.int .i64 0,.int .i64 0,.int .i64 0,.int .i64 0],
  .agg [.int .i64 0,.int .i64 0,.int .i64 0],
  .agg [.int .i64 0,.int .i64 0,.int .i64 0],
  .agg [.int .i64 0,.int .i64 0,.int .i64 0,.int .i64 0,.int .i64 0,.int .i64 0,.int .i64 0,.int .i64 0,.int .i64 0,.int .i64 0,.int .i64 0,.int .i64 0,.int .i64 0],
  .agg [.int .i64 0,.int .i64 0,.int .i64 0,.int .i64 0,.int .i64 0,.int .i64 0,.int .i64 0,.int .i64 0,.int .i64 0,.int .i64 0,.int .i64 0,.int .i64 0,.int .i64 0],
  .agg [.int .i64 0,.ai,.ai,.ai,.int .i64 0,.ai,.int .i64 0,.int .i64 0,.int .i64 0,.int .i64 0,.int .i64 0,.int .i64 0,.int .i64 0,.int .i64 0,.int .i64 0,.int .i64 0,.int .i64 0,.int .i64 0,.int .i64 0,.int .i64 0,.int .i64 0,.int .i64 0,.int .i64 0,.int .i64 0],
  .agg [.int .i64 0,.ai,.ai,.ai,.int .i64 0,.ai,.int .i64 0,.int .i64 0,.int .i64 0,.int .i64 0,.int .i64 0,.int .i64 0,.int .i64 0,.int .i64 0,.int .i64 0,.int .i64 0,.int .i64 0,.int .i64 0,.int .i64 0,.int .i64 0,.int .i64 0,.int .i64 0,.int .i64 0,.int .i64 0],
  .int .i64 0,
  .agg [.int .i64 0,.int .i64 0,.int .i64 0,.int .i64 0,.int .i64 0,.int .i64 0,.int .i64 0,.int .i64 0,.int .i64 0],
  .agg [.int .i64 0,.int .i64 0,.int .i64 0],
  .agg [.int .i64 0,.int .i64 0,.int .i64 0],
  .agg [.int .i64 0,.int .i64 0,.int .i64 0,.int .i64 0,.int .i64 0,.int .i64 0,.int .i64 0,.int .i64 0,.int .i64 0,.int .i64 0,.int .i64 0,.int .i64 0],
  .agg [.int .i64 0,.int .i64 0,.int .i64 0,.int .i64 0,.int .i64 0,.int .i64 0,.int .i64 0,.int .i64 0,.int .i64 0,.int .i64 0,.int .i64 0,.int .i64 0],
  .agg [.int .i64 0,.int .i64 0,.int .i64 0,.int .i64 0,.int .i64 0,.int .i64 0,.int .i64 0,.int .i64 0,.int .i64 0,.int .i64 0,.int .i64 0,.int .i64 0,.int .i64 0,.int .i64 0,.int .i64 0,.int .i64 0],
  .agg [.int .i64 0,.int .i64 0,.int .i64 0,.int .i64 0,.int .i64 0,.int .i64 0,.int .i64 0,.int .i64 0,.int .i64 0,.int .i64 0,.int .i64 0,.int .i64 0,.int .i64 0,.int .i64 0,.int .i64 0,.int .i64 0],
  .agg [.int .i64 0,.int .i64 0,.int .u64 0,.int .i64 0,.int .u32 0,.int .u8 0,.int .u8 0,.int .u8 0,.int .u8 0,.int .u8 0,.int .u8 0,.int .u8 0,.int .u8 0,.int .u32 0,.int .u32 0,.int .i64 0,.int .i64 0,.int .i64 0,.ai,.ai,.ai,.int .i64 0,.ai,.int .i64 0,.int .i64 0,.int .i64 0,.int .i64 0,.int .i64 0,.int .i64 0,.int .i64 0,.int .i64 0,.int .i64 0,.int .i64 0,.int .i64 0,.int .i64 0,.int .i64 0,.int .i64 0,.int .i64 0,.int .i64 0,.int .i64 0,.int .i64 0,.int .i64 0,.int .i64 0,.int .i64 0,.int .i64 0,.int .i64 0,.int .i64 0,.int .i64 0,.int .i64 0,.int .i64 0,.int .i64 0,.int .i64 0,.int .i64 0,.int .i64 0,.int .i64 0,.int .i64 0,.int .i64 0],
  .agg [.int .i64 0,.int .i64 0,.int .u64 0,.int .i64 0,.int .u32 0,.int .u8 0,.int .u8 0,.int .u8 0,.int .u8 0,.int .u8 0,.int .u8 0,.int .u8 0,.int .u8 0,.int .u32 0,.int .u32 0,.int .i64 0,.int .i64 0,.int .i64 0,.ai,.ai,.ai,.int .i64 0,.ai,.int .i64 0,.int .i64 0,.int .i64 0,.int .i64 0,.int .i64 0,.int .i64 0,.int .i64 0,.int .i64 0,.int .i64 0,.int .i64 0,.int .i64 0,.int .i64 0,.int .i64 0,.int .i64 0,.int .i64 0,.int .i64 0,.int .i64 0,.int .i64 0,.int .i64 0,.int .i64 0,.int .i64 0,.int .i64 0,.int .i64 0,.int .i64 0,.int .i64 0,.int .i64 0,.int .i64 0,.int .i64 0,.int .i64 0,.int .i64 0,.int .i64 0,.int .i64 0,.int .i64 0,.int .i64 0],
  .aw,
  .bM,
  .bM,
  .aQ [.bM,.bM],
  .aw,
  .ai,
  .ai,
  .ai,
  .ai,
  .ai,
  .ai,
  .agg [.ai,.ai,.ai,.ai,.ai,.ai,.int .u32 0,.int .u32 0,.int .u32 0],
  .agg [.ai,.ai,.ai,.ai,.ai,.ai,.int .u32 0,.int .u32 0,.int .u32 0],
  .int .i64 0,
  .aQ [.bad,.int .i64 0],
  .aw,
  .aw,
  .aw,
  .aw,
  .agg [.int .i64 0,.int .i64 0,.int .i64 0,.int .i64 0,.int .i64 0,.int .i64 0,.int .i64 0,.int .i64 0,.int .i64 0],
  .agg [.int .i64 0,.int .i64 0],
  .agg [.int .i64 0,.int .i64 0,.int .i64 0,.int .i64 0,.int .i64 0,.int .i64 0],
  .agg [.int .i64 0,.int .i64 0,.int .i64 0,.int .i64 0,.int .i64 0,.int .i64 0,.int .i64 0,.int .i64 0,.int .i64 0,.int .i64 0,.int .i64 0,.int .i64 0,.int .i64 0,.int .i64 0,.int .i64 0,.int .i64 0,.int .i64 0,.int .i64 0,.int .u8 0],
  .agg [.int .i64 0,.int .i64 0,.int .i64 0,.int .i64 0,.int .i64 0,.int .i64 0,.int .i64 0,.int .i64 0,.int .i64 0,.int .i64 0,.int .i64 0,.int .i64 0,.int .i64 0,.int .i64 0,.int .i64 0,.int .i64 0,.int .i64 0,.int .i64 0,.int .u8 0],
  .aQ [.int .i64 0,.int .i64 0],
  .aw,
  .aw,
  .aw,
  .ai,
  .aw,
  .aw,
  .aQ [.bad,.int .i64 0],
  .aw,
  .cj,
  .cj,
  .agg [.cj,.cj],
  .agg [.cj,.cj],
  .aw,
  .aw,
  .aw,
  .ai,
  .ai,
  .agg [.ai,.ai],
  .agg [.ai,.ai],
  .aw,
  .aw,
  .aw,
  .bM,
  .cj,
  .agg [.ai,.ai,.ai,.ai,.ai,.ai,.int .u32 0,.int .u32 0,.int .u32 0,.cj,.cj,.cj],
  .agg [.ai,.ai,.ai,.ai,.ai,.ai,.int .u32 0,.int .u32 0,.int .u32 0,.cj,.cj,.cj],
  .aw,
  .aw,
  .aw,
  .aw,
  .aw,
  .aw,
  .aw,
  .aw,
  .aw,
  .bM,
  .agg [.ai],
  .agg [.ai],
  .aw,
  .aw,
  .ai,
  .aw,
  .aw,
  .agg [.int .i64 0,.int .u64 0,.int .i64 0,.int .u32 0,.int .u8 0,.int .u8 0,.int .u8 0,.int .u8 0,.int .u8 0,.int .u8 0,.int .u8 0,.int .u8 0,.int .u32 0,.int .u32 0,.int .i64 0,.int .i64 0,.int .i64 0,.ai,.ai,.ai,.int .i64 0,.ai,.int .i64 0,.int .i64 0,.int .i64 0,.int .i64 0,.int .i64 0,.int .i64 0,.int .i64 0,.int .i64 0,.int .i64 0,.int .i64 0,.int .i64 0,.int .i64 0,.int .i64 0,.int .i64 0,.int .i64 0,.int .i64 0,.int .i64 0,.int .i64 0],
  .agg [.int .i64 0,.int .u64 0,.int .i64 0,.int .u32 0,.int .u8 0,.int .u8 0,.int .u8 0,.int .u8 0,.int .u8 0,.int .u8 0,.int .u8 0,.int .u8 0,.int .u32 0,.int .u32 0,.int .i64 0,.int .i64 0,.int .i64 0,.ai,.ai,.ai,.int .i64 0,.ai,.int .i64 0,.int .i64 0,.int .i64 0,.int .i64 0,.int .i64 0,.int .i64 0,.int .i64 0,.int .i64 0,.int .i64 0,.int .i64 0,.int .i64 0,.int .i64 0,.int .i64 0,.int .i64 0,.int .i64 0,.int .i64 0,.int .i64 0,.int .i64 0],
  .aw,
  .aw,
  .aw,
  .aQ [.bad,.int .i64 0],
  .aw,
  .aw,
  .aw,
  .aw,
  .aw,
  .aw,
  .aw,
  .aw,
  .agg [.int .i64 0,.int .i64 0,.int .i64 0,.int .i64 0],
  .agg [.int .i64 0,.int .i64 0,.int .i64 0,.int .i64 0],
  .aw,
  .aw,
  .aQ [.int .u32 0,.int .u32 0],
  .aw,
  .aw,
  .aw,
  .aw,
  .aw,
  .aw,
  .aw,
  .aw,
  .aw,
  .aw,
  .aQ [.bad,.bool false],
  .aQ [.int .i64 0,.bool false],
  .aQ [.bad,.int .i64 0],
  .aw,
  .aw,
  .aQ [.bad,.bool false],
  .aQ [.ai,.int .i64 0],
  .aw,
  .aQ [.ai,.int .i64 0],
  .aw,
  .aw,
  .aw,
  .aw,
  .aw,
  .aw,
  .aw,
  .aw,
  .aw,
  .aw,
  .aw,
  .ai,
  .agg [.int .u32 0,.int .u32 0],
  .aw,
  .aw,
  .aw,
  .aw,
  .aw,
  .aw,
  .aw,
  .aw,
  .aw,
  .int .u64 0,
  .aw,
  .aw,
  .aw,
  .aw,
  .aw,
  .aw,
  .aw,
  .aw,
  .aw,
  .aw,
  .aw,
  .aw,
  .aw,
  .aw,
  .aw,
  .aw,
  .aw,
  .aw,
  .aw,
  .aw,
  .aw,
  .aw,
  .int .i64 0,
  .aQ [.int .i64 0,.int .i64 0],
  .aw,
  .aw,
  .aw,
  .aw,
  .aw,
  .aw,
  .aw,
  .aw,
  .aw,
  .aw,
  .aw,
  .aw,
  .aw,
  .aw,
  .aw,
  .aw,
  .aw,
  .agg [.int .i64 0,.int .i64 0,.int .i64 0,.int .i64 0,.int .i64 0],
  .aw,
  .aw,
  .ai,
  .aw,
  .aw,
  .aw,
  .aw,
  .aw,
  .aw,
  .aw,
  .aw,
  .aw,
  .aw,
  .aw,
  .aw,
  .aw,
  .int .u64 0,
  .aw,
  .aw,
  .aw,
  .bM,
  .aw,
  .ai,
  .aw,
  .aw,
  .aw,
  .aw,
  .agg [.int .i64 0,.int .u64 0],
  .agg [.int .i64 0,.int .u64 0],
  .aw,
  .aw,
  .aw,
  .aw,
  .aw,
  .aw,
  .aw,
  .aw,
  .aw,
  .aw,
  .aw,
  .bM,
  .aw,
  .aQ [.int .i64 0,.bool false],
  .aw,
  .aQ [.int .u64 0,.bool false],
  .aw,
  .aQ [.int .u64 0,.int .u64 0],
  .aw,
  .aQ [.bad,.bool false],
  .aw,
  .aw,
  .aw,
  .aw,
  .aw,
  .aw,
  .aw,
  .aw,
  .aw,
  .aw,
  .aw,
  .aw,
  .agg [.bM,.bM,.bM,.str []],
  .agg [.bM,.bM,.bM,.str []],
  .agg [],
  .agg [],
  .agg [],
  .aw,
  .int .u8 0,
  .int .u8 0,
  .aw,
  .bM,
  .int .i32 0,
  .int .i32 0,
  .agg [.int .u64 0,.int .u64 0,.int .u32 0,.int .u8 0,.int .u8 0,.int .u8 0,.int .u8 0,.aw,.bM,.int .i32 0,.int .i32 0],
  .agg [.int .u64 0,.int .u64 0,.int .u32 0,.int .u8 0,.int .u8 0,.int .u8 0,.int .u8 0,.aw,.bM,.int .i32 0,.int .i32 0],
  .bM]
theorem hT:PT Tryz.prog tt:=⟨Oj 301 (by kernel_rfl) (by kernel_rfl) (by kernel_rfl),by kernel_rfl⟩
def ftl:List (Nat × Nat):=[(4,54),(11,63),(12,53),(14,55),(16,80),(17,81),(18,82),(19,83),(37,102),(38,118),(47,16),(54,103),(55,105),(62,147),(63,104),(71,67),(72,68),(82,146),(83,156),(84,139),(85,113),(89,31),(100,186),(101,89),(106,204),(191,43),(193,138),(196,145),(197,155),(198,111),(206,180),(207,181),(208,182),(209,183),(210,184),(211,185),(212,157),(213,154),(217,201),(218,202),(219,203),(221,34),(231,136),(232,109),(233,96),(234,71),(235,94),(236,69),(241,64),(242,42),(243,95),(244,70),(246,135),(248,137),(249,97),(251,177),(252,176),(253,151),(254,108),(255,132),(256,133),(257,106),(259,72),(260,134),(261,107),(262,173),(263,174),(264,179),(265,178),(266,196),(267,175),(268,190),(269,150),(270,172),(271,148),(272,110),(273,149),(274,197),(275,198),(276,199),(277,200),(278,208),(279,152),(280,153),(281,195),(282,189),(283,210),(284,209),(285,212),(286,213),(287,214),(290,140),(291,115),(292,141),(293,116),(294,65),(295,76),(298,99),(307,187),(308,188),(309,98),(310,100),(311,101),(312,112),(313,114),(314,117),(315,142),(316,143),(317,144),(322,206),(323,205),(324,211),(345,21),(346,32),(347,33),(355,50),(356,58),(357,66),(358,62),(361,87),(362,88),(404,130),(418,27),(419,28),(420,22),(421,23),(427,45),(428,44),(430,25),(432,24),(433,57),(434,56),(435,59),(436,60),(437,74),(438,73),(439,51),(440,52),(441,46),(442,47),(443,48),(444,49),(445,84),(446,85),(447,86),(448,91),(449,90),(450,61),(451,93),(452,92),(454,75),(455,77),(456,78),(457,119),(458,120),(459,121),(460,122),(461,123),(462,124),(463,125),(464,126),(465,127),(466,128),(467,129),(468,131),(469,158),(470,159),(471,160),(472,161),(473,162),(474,163),(475,164),(476,165),(477,166),(478,167),(479,168),(480,169),(481,170),(482,171),(483,191),(484,192),(485,193),(486,194),(487,207),(488,3),(489,7),(490,8),(491,9),(492,10),(493,11),(494,4),(495,12),(496,13),(497,5),(498,14),(499,15),(500,17),(501,6),(502,18),(503,19),(504,20),(505,26),(506,29),(507,30),(508,35),(509,36),(510,37),(511,38),(512,39),(513,40),(514,41)]
def tyl:List (Nat × Nat):=[(0,24),(1,25),(2,27),(3,172),(4,5),(5,224),(6,23),(10,3),(12,34),(13,35),(14,61),(18,74),(22,119),(23,9),(25,32),(26,39),(28,73),(29,75),(31,47),(32,44),(33,49),(37,45),(38,253),(39,43),(40,37),(41,41),(44,51),(45,123),(46,4),(47,90),(48,94),(49,137),(51,82),(55,53),(56,97),(57,87),(58,241),(59,66),(60,77),(61,104),(62,116),(67,67),(105,59),(106,176),(107,2)]
noncomputable def R:Env:= {P:=Tryz.prog,T:=tt,ok:=hT,ft:=lkp ftl,ty:=lkp tyl}
theorem h16:R.Fn 16 c16:=⟨by kernel_rfl⟩
theorem n16:N16 R:=⟨h16⟩
theorem h17:R.Fn 17 c17:=⟨by kernel_rfl⟩
theorem n17:Zx R:=⟨h17⟩
theorem h4:R.Fn 4 c4:=⟨by kernel_rfl⟩
theorem n4:N4 R:=⟨h4,n16,n17⟩
theorem Kn:R.Fn 11 c11:=⟨by kernel_rfl⟩
theorem n11:Zy R:=⟨Kn⟩
theorem JL:R.Fn 12 c12:=⟨by kernel_rfl⟩
theorem n12:N12 R:=⟨JL,n11⟩
theorem h18:R.Fn 18 c18:=⟨by kernel_rfl⟩
theorem n18:N18 R:=⟨h18⟩
theorem h19:R.Fn 19 c19:=⟨by kernel_rfl⟩
theorem n19:Zz R:=⟨h19⟩
theorem h14:R.Fn 14 c14:=⟨by kernel_rfl⟩
theorem n14:N14 R:=⟨h14,n18,n19⟩
theorem h37:R.Fn 37 c37:=⟨by kernel_rfl⟩
theorem n37:N37 R:=⟨h37⟩
theorem h38:R.Fn 38 c38:=⟨by kernel_rfl⟩
theorem n38:N38 R:=⟨h38⟩
theorem h62:R.Fn 62 c62:=⟨by kernel_rfl⟩
theorem n62:N62 R:=⟨h62⟩
theorem h54:R.Fn 54 c54:=⟨by kernel_rfl⟩
theorem JP:PH R:=⟨h54,n62⟩
theorem h47:R.Fn 47 c47:=⟨by kernel_rfl⟩
theorem n47:N47 R:=⟨h47⟩
theorem h63:R.Fn 63 c63:=⟨by kernel_rfl⟩
theorem JR:ZA R:=⟨h63⟩
theorem h55:R.Fn 55 c55:=⟨by kernel_rfl⟩
theorem NJ:WZ R:=⟨h55,JR⟩
theorem h71:R.Fn 71 c71:=⟨by kernel_rfl⟩
theorem JQ:PI R:=⟨h71,JP⟩
theorem h72:R.Fn 72 c72:=⟨by kernel_rfl⟩
theorem QL:W4 R:=⟨h72,NJ,JR⟩
theorem acH:R.Fn 106 Uc:=⟨by kernel_rfl⟩
theorem n106:OZ R:=⟨acH⟩
theorem acI:R.Fn 100 Ue:=⟨by kernel_rfl⟩
theorem n100:O0 R:=⟨acI,n106⟩
theorem h84:R.Fn 84 c84:=⟨by kernel_rfl⟩
theorem NI:Zv R:=⟨h84,n100⟩
theorem h82:R.Fn 82 c82:=⟨by kernel_rfl⟩
theorem Zw:N82 R:=⟨h82,NI⟩
theorem h85:R.Fn 85 c85:=⟨by kernel_rfl⟩
theorem NK:ZC R:=⟨h85⟩
theorem h83:R.Fn 83 c83:=⟨by kernel_rfl⟩
theorem ZD:N83 R:=⟨h83,NK⟩
theorem acJ:R.Fn 101 Ug:=⟨by kernel_rfl⟩
theorem n101:KR R:=⟨acJ⟩
theorem h89:R.Fn 89 c89:=⟨by kernel_rfl⟩
theorem ZE:N89 R:=⟨h89⟩
theorem acK:R.Fn 191 Wv:=⟨by kernel_rfl⟩
theorem n191:Qv R:=⟨acK⟩
theorem acL:R.Fn 206 Vz:=⟨by kernel_rfl⟩
theorem n206:PJ R:=⟨acL⟩
theorem acM:R.Fn 207 VB:=⟨by kernel_rfl⟩
theorem n207:PK R:=⟨acM⟩
theorem acN:R.Fn 208 VD:=⟨by kernel_rfl⟩
theorem n208:PL R:=⟨acN⟩
theorem acO:R.Fn 217 Uh:=⟨by kernel_rfl⟩
theorem n217:O2 R:=⟨acO⟩
theorem acP:R.Fn 209 Uj:=⟨by kernel_rfl⟩
theorem n209:O3 R:=⟨acP,n217⟩
theorem acQ:R.Fn 218 Ul:=⟨by kernel_rfl⟩
theorem n218:O4 R:=⟨acQ⟩
theorem acR:R.Fn 210 Un:=⟨by kernel_rfl⟩
theorem n210:O5 R:=⟨acR,n218⟩
theorem acS:R.Fn 219 Up:=⟨by kernel_rfl⟩
theorem n219:O6 R:=⟨acS⟩
theorem acT:R.Fn 211 Uq:=⟨by kernel_rfl⟩
theorem n211:O7 R:=⟨acT,n219⟩
theorem acU:R.Fn 193 VE:=⟨by kernel_rfl⟩
theorem n193:Lb R:=⟨acU,n206,n207,n208,n209,n210,n211⟩
theorem acV:R.Fn 196 VF:=⟨by kernel_rfl⟩
theorem n196:PN R:=⟨acV,JP,JQ,n193⟩
theorem acW:R.Fn 213 W6:=⟨by kernel_rfl⟩
theorem n213:Lz R:=⟨acW⟩
theorem acX:R.Fn 198 W7:=⟨by kernel_rfl⟩
theorem n198:LA R:=⟨acX,n213⟩
theorem acY:R.Fn 212 W8:=⟨by kernel_rfl⟩
theorem n212:LB R:=⟨acY,QL⟩
theorem acZ:R.Fn 197 W9:=⟨by kernel_rfl⟩
theorem n197:QM R:=⟨acZ,n198,n212⟩
theorem ac0:R.Fn 221 Vm:=⟨by kernel_rfl⟩
theorem n221:PB R:=⟨ac0⟩
theorem ac1:R.Fn 251 Vo:=⟨by kernel_rfl⟩
theorem n251:PC R:=⟨ac1⟩
theorem ac2:R.Fn 262 Va:=⟨by kernel_rfl⟩
theorem n262:HY R:=⟨ac2⟩
theorem ac3:R.Fn 275 UP:=⟨by kernel_rfl⟩
theorem n275:Ph R:=⟨ac3⟩
theorem ac4:R.Fn 276 Ur:=⟨by kernel_rfl⟩
theorem n276:KT R:=⟨ac4⟩
theorem ac5:R.Xn 286 "math/bits.Sub64" :=⟨by kernel_rfl⟩
theorem n286:Us R:=⟨ac5⟩
theorem ac6:R.Fn 283 UQ:=⟨by kernel_rfl⟩
theorem n283:Pk R:=⟨ac6,n286⟩
theorem ac7:R.Fn 277 US:=⟨by kernel_rfl⟩
theorem n277:Pl R:=⟨ac7,n283⟩
theorem ac8:R.Fn 264 UU:=⟨by kernel_rfl⟩
theorem n264:KW R:=⟨ac8,n275,n276,n277⟩
theorem ac9:R.Fn 274 UV:=⟨by kernel_rfl⟩
theorem n274:KX R:=⟨ac9⟩
theorem ac':R.Fn 265 U0:=⟨by kernel_rfl⟩
theorem n265:KZ R:=⟨ac',n274⟩
theorem ada:R.Fn 287 UW:=⟨by kernel_rfl⟩
theorem n287:UX R:=⟨ada⟩
theorem adb:R.Fn 285 UY:=⟨by kernel_rfl⟩
theorem n285:Pn R:=⟨adb,n287⟩
theorem ade:R.Fn 284 U1:=⟨by kernel_rfl⟩
theorem n284:Pp R:=⟨ade,n264,n265,n285⟩
theorem adf:R.Fn 278 Vb:=⟨by kernel_rfl⟩
theorem n278:K5 R:=⟨adf,n284⟩
theorem adg:R.Fn 266 Vc:=⟨by kernel_rfl⟩
theorem n266:Pv R:=⟨adg,n262,n278⟩
theorem adh:R.Fn 267 U3:=⟨by kernel_rfl⟩
theorem n267:K0 R:=⟨adh⟩
theorem adi:R.Fn 252 Ve:=⟨by kernel_rfl⟩
theorem n252:Pw R:=⟨adi,n266,n267⟩
theorem adj:R.Fn 231 Vp:=⟨by kernel_rfl⟩
theorem n231:PD R:=⟨adj,n251,n252⟩
theorem adk:R.Fn 279 Wx:=⟨by kernel_rfl⟩
theorem n279:BV R:=⟨adk⟩
theorem adl:R.Fn 280 Wy:=⟨by kernel_rfl⟩
theorem n280:E7 R:=⟨adl⟩
theorem adm:R.Fn 268 WA:=⟨by kernel_rfl⟩
theorem n268:Qw R:=⟨adm,n276,n279,n280⟩
theorem adn:R.Fn 269 WB:=⟨by kernel_rfl⟩
theorem n269:Lu R:=⟨adn,n279,n280⟩
theorem ado:R.Fn 253 WI:=⟨by kernel_rfl⟩
theorem n253:QB R:=⟨ado,n268,n269⟩
theorem adp:R.Fn 232 WQ:=⟨by kernel_rfl⟩
theorem n232:QG R:=⟨adp,n253⟩
theorem adq:R.Fn 263 Vf:=⟨by kernel_rfl⟩
theorem n263:K8 R:=⟨adq,n267⟩
theorem ads:R.Fn 246 Vg:=⟨by kernel_rfl⟩
theorem n246:Px R:=⟨ads,n262,n263⟩
theorem adt:R.Fn 233 Vr:=⟨by kernel_rfl⟩
theorem n233:PE R:=⟨adt,n231,n246⟩
theorem adu:R.Fn 254 WJ:=⟨by kernel_rfl⟩
theorem n254:QC R:=⟨adu,n269⟩
theorem adv:R.Fn 234 WS:=⟨by kernel_rfl⟩
theorem n234:QH R:=⟨adv,n232,n254⟩
theorem adw:R.Fn 281 U4:=⟨by kernel_rfl⟩
theorem n281:Pr R:=⟨adw⟩
theorem adx:R.Fn 270 U6:=⟨by kernel_rfl⟩
theorem n270:Ps R:=⟨adx,n281⟩
theorem ady:R.Fn 255 U8:=⟨by kernel_rfl⟩
theorem n255:K1 R:=⟨ady,n270⟩
theorem adz:R.Fn 256 Vi:=⟨by kernel_rfl⟩
theorem n256:Py R:=⟨adz,n255⟩
theorem adA:R.Fn 235 Vt:=⟨by kernel_rfl⟩
theorem n235:PF R:=⟨adA,n255,n256⟩
theorem adB:R.Fn 282 WC:=⟨by kernel_rfl⟩
theorem n282:Qx R:=⟨adB,n279,n280⟩
theorem adC:R.Fn 271 WL:=⟨by kernel_rfl⟩
theorem n271:QD R:=⟨adC,n282⟩
theorem adD:R.Fn 257 WM:=⟨by kernel_rfl⟩
theorem n257:QE R:=⟨adD,n271⟩
theorem adE:R.Fn 236 WU:=⟨by kernel_rfl⟩
theorem n236:QI R:=⟨adE,n257⟩
theorem adF:R.Fn 260 U9:=⟨by kernel_rfl⟩
theorem n260:Pt R:=⟨adF⟩
theorem adG:R.Fn 243 Vv:=⟨by kernel_rfl⟩
theorem n243:PG R:=⟨adG,n260⟩
theorem adH:R.Fn 248 U':=⟨by kernel_rfl⟩
theorem n248:Pu R:=⟨adH,n264,n265⟩
theorem adI:R.Fn 249 Vk:=⟨by kernel_rfl⟩
theorem n249:PA R:=⟨adI,n248⟩
theorem adJ:R.Fn 241 Vy:=⟨by kernel_rfl⟩
theorem n241:La R:=⟨adJ,n233,n235,n243,n249⟩
theorem adK:R.Fn 273 WE:=⟨by kernel_rfl⟩
theorem n273:Qy R:=⟨adK,n279⟩
theorem adL:R.Fn 261 WG:=⟨by kernel_rfl⟩
theorem n261:Qz R:=⟨adL,n273⟩
theorem adM:R.Fn 244 WW:=⟨by kernel_rfl⟩
theorem n244:QJ R:=⟨adM,n261⟩
theorem adN:R.Fn 272 WH:=⟨by kernel_rfl⟩
theorem n272:QA R:=⟨adN,n279,n280⟩
theorem adO:R.Fn 259 WO:=⟨by kernel_rfl⟩
theorem n259:QF R:=⟨adO,n272⟩
theorem adP:R.Fn 242 WY:=⟨by kernel_rfl⟩
theorem n242:Ly R:=⟨adP,n234,n236,n244,n259⟩
theorem adQ:R.Fn 322 VH:=⟨by kernel_rfl⟩
theorem n322:PO R:=⟨adQ⟩
theorem adR:R.Fn 324 Uu:=⟨by kernel_rfl⟩
theorem n324:O9 R:=⟨adR⟩
theorem adS:R.Fn 323 Uv:=⟨by kernel_rfl⟩
theorem n323:O' R:=⟨adS,n324⟩
theorem adT:R.Fn 307 VI:=⟨by kernel_rfl⟩
theorem n307:Lc R:=⟨adT,n322,n323⟩
theorem adU:R.Fn 290 VJ:=⟨by kernel_rfl⟩
theorem n290:PP R:=⟨adU,n307⟩
theorem adV:R.Fn 291 Xb:=⟨by kernel_rfl⟩
theorem n291:QN R:=⟨adV⟩
theorem adW:R.Fn 308 VL:=⟨by kernel_rfl⟩
theorem n308:PQ R:=⟨adW⟩
theorem adX:R.Fn 292 VM:=⟨by kernel_rfl⟩
theorem n292:PR R:=⟨adX,n307,n308⟩
theorem adY:R.Fn 293 Xd:=⟨by kernel_rfl⟩
theorem n293:QO R:=⟨adY,n213⟩
theorem adZ:R.Fn 315 VO:=⟨by kernel_rfl⟩
theorem n315:PU R:=⟨adZ⟩
theorem ad0:R.Fn 316 VQ:=⟨by kernel_rfl⟩
theorem n316:PV R:=⟨ad0⟩
theorem ad1:R.Fn 317 VS:=⟨by kernel_rfl⟩
theorem n317:PW R:=⟨ad1⟩
theorem ad2:R.Fn 298 VT:=⟨by kernel_rfl⟩
theorem n298:PY R:=⟨ad2,n315,n316,n317⟩
theorem ad3:R.Fn 309 VV:=⟨by kernel_rfl⟩
theorem n309:PZ R:=⟨ad3,NI,n193,n290,n292⟩
theorem ad4:R.Fn 310 VX:=⟨by kernel_rfl⟩
theorem n310:P0 R:=⟨ad4⟩
theorem ad5:R.Fn 311 VZ:=⟨by kernel_rfl⟩
theorem n311:P1 R:=⟨ad5,JP,JQ,Zw,n196⟩
theorem ad6:R.Fn 294 V1:=⟨by kernel_rfl⟩
theorem n294:P3 R:=⟨ad6,n37,n298,n309,n310,n311⟩
theorem ad7:R.Fn 312 Xf:=⟨by kernel_rfl⟩
theorem n312:QP R:=⟨ad7⟩
theorem ad8:R.Fn 313 Xg:=⟨by kernel_rfl⟩
theorem n313:QQ R:=⟨ad8⟩
theorem ad9:R.Fn 314 Xh:=⟨by kernel_rfl⟩
theorem n314:QR R:=⟨ad9,NJ,ZD,n197,n212⟩
theorem ad':R.Fn 295 Xi:=⟨by kernel_rfl⟩
theorem n295:QS R:=⟨ad',n38,NK,n198,n291,n293,n312,n313,n314⟩
theorem aea:R.Fn 345 V4:=⟨by kernel_rfl⟩
theorem n345:Le R:=⟨aea⟩
theorem aeb:R.Fn 355 V5:=⟨by kernel_rfl⟩
theorem ja:tH R:=⟨aeb⟩
theorem aec:R.Fn 361 Uw:=⟨by kernel_rfl⟩
theorem Li:KU R:=⟨aec⟩
theorem aed:R.Fn 362 Uy:=⟨by kernel_rfl⟩
theorem Lj:KV R:=⟨aed⟩
theorem aee:R.Fn 356 V6:=⟨by kernel_rfl⟩
theorem vf:Lg R:=⟨aee,n101,Li,Lj⟩
theorem aef:R.Fn 346 V7:=⟨by kernel_rfl⟩
theorem n346:Lk R:=⟨aef,n294,ja,vf⟩
theorem aeg:R.Fn 357 V8:=⟨by kernel_rfl⟩
theorem P5:P4 R:=⟨aeg⟩
theorem aeh:R.Fn 358 V9:=⟨by kernel_rfl⟩
theorem lU:H0 R:=⟨aeh⟩
theorem aei:R.Fn 347 V':=⟨by kernel_rfl⟩
theorem E9:Ll R:=⟨aei,n241,ja,P5,lU⟩
theorem aej:R.Fn 447 UA:=⟨by kernel_rfl⟩
theorem UD:UB R:=⟨aej⟩
theorem aek:R.Fn 433 UC:=⟨by kernel_rfl⟩
theorem P7:Pa R:=⟨aek,UD⟩
theorem ael:R.As 434:=⟨by kernel_rfl⟩
theorem P8:UE R:=⟨ael⟩
theorem aem:R.Fn 418 Wa:=⟨by kernel_rfl⟩
theorem Ql:P6 R:=⟨aem,ja,vf,P7,P8⟩
theorem aen:R.As 435:=⟨by kernel_rfl⟩
theorem Lo:UF R:=⟨aen⟩
theorem aeo:R.Fn 468 UH:=⟨by kernel_rfl⟩
theorem E4:Pb R:=⟨aeo⟩
theorem aep:R.Fn 451 UI:=⟨by kernel_rfl⟩
theorem vg:Pe R:=⟨aep,E4⟩
theorem aeq:R.Fn 452 UJ:=⟨by kernel_rfl⟩
theorem Lm:Pf R:=⟨aeq⟩
theorem aer:R.Fn 450 Wb:=⟨by kernel_rfl⟩
theorem Ln:P9 R:=⟨aer,vg,Lm⟩
theorem aes:R.Fn 436 Wd:=⟨by kernel_rfl⟩
theorem Qb:P' R:=⟨aes,lU,Ln⟩
theorem aet:R.Fn 419 We:=⟨by kernel_rfl⟩
theorem Qm:Qa R:=⟨aet,ja,Lo,Qb⟩
theorem aeu:R.Fn 420 Xs:=⟨by kernel_rfl⟩
theorem LQ:QX R:=⟨aeu,n191⟩
theorem aev:R.Fn 427 Wf:=⟨by kernel_rfl⟩
theorem QZ:Qc R:=⟨aev,ja,lU⟩
theorem aew:R.Fn 437 Wg:=⟨by kernel_rfl⟩
theorem Qe:Lp R:=⟨aew⟩
theorem aex:R.Fn 438 UL:=⟨by kernel_rfl⟩
theorem Qf:Pg R:=⟨aex⟩
theorem aey:R.Fn 428 Wh:=⟨by kernel_rfl⟩
theorem Q0:Qd R:=⟨aey,ja,Qe,Qf⟩
theorem aez:R.Fn 421 Xu:=⟨by kernel_rfl⟩
theorem Rk:QY R:=⟨aez,n346,E9,QZ,Q0⟩
theorem aeA:R.As 439:=⟨by kernel_rfl⟩
theorem Qh:UN R:=⟨aeA⟩
theorem aeB:R.As 440:=⟨by kernel_rfl⟩
theorem Qi:UO R:=⟨aeB⟩
theorem aeC:R.Fn 430 Wi:=⟨by kernel_rfl⟩
theorem E6:H1 R:=⟨aeC,ja,Qh,Qi⟩
theorem aeD:R.Fn 454 Xk:=⟨by kernel_rfl⟩
theorem tI:H5 R:=⟨aeD⟩
theorem aeE:R.Fn 441 Xl:=⟨by kernel_rfl⟩
theorem Q2:QT R:=⟨aeE,n295,tI⟩
theorem aeF:R.Fn 442 Xm:=⟨by kernel_rfl⟩
theorem Q3:QU R:=⟨aeF,tI⟩
theorem aeG:R.Fn 456 Xo:=⟨by kernel_rfl⟩
theorem pB:LF R:=⟨aeG⟩
theorem aeH:R.Fn 455 Xp:=⟨by kernel_rfl⟩
theorem zQ:LG R:=⟨aeH,pB⟩
theorem aeI:R.Fn 443 Xq:=⟨by kernel_rfl⟩
theorem Q4:QV R:=⟨aeI,n242,tI,zQ,pB⟩
theorem aeJ:R.Fn 444 Xr:=⟨by kernel_rfl⟩
theorem Q5:QW R:=⟨aeJ,zQ⟩
theorem aeK:R.Fn 432 Xv:=⟨by kernel_rfl⟩
theorem Rl:Q1 R:=⟨aeK,Q2,Q3,Q4,Q5⟩
theorem aeL:R.Fn 490 XL:=⟨by kernel_rfl⟩
theorem Rq:Rh R:=⟨aeL,n345,LQ,Rk,Rl⟩
theorem aeM:R.Fn 505 Wj:=⟨by kernel_rfl⟩
theorem Qn:Qj R:=⟨aeM,n4,n12,n14⟩
theorem aeN:R.Fn 506 Wl:=⟨by kernel_rfl⟩
theorem Qo:Qk R:=⟨aeN,n11,n241⟩
theorem aeO:R.Fn 491 Wm:=⟨by kernel_rfl⟩
theorem tJ:BU R:=⟨aeO,Ql,Qm,E6,Qn,Qo⟩
theorem aeP:R.Fn 507 Xz:=⟨by kernel_rfl⟩
theorem LJ:Q7 R:=⟨aeP⟩
theorem aeQ:R.Fn 492 XB:=⟨by kernel_rfl⟩
theorem Fa:Q8 R:=⟨aeQ,ZE,LJ⟩
theorem aeR:R.Fn 493 XM:=⟨by kernel_rfl⟩
theorem Fb:Ro R:=⟨aeR,n221,n345,n346,E9,tJ⟩
theorem aeS:R.Fn 495 Wo:=⟨by kernel_rfl⟩
theorem Lr:Qp R:=⟨aeS⟩
theorem aeT:R.Fn 496 Wq:=⟨by kernel_rfl⟩
theorem Fc:Qq R:=⟨aeT,Lr⟩
theorem aeU:R.Fn 508 Wr:=⟨by kernel_rfl⟩
theorem iO:H2 R:=⟨aeU,JQ⟩
theorem aeV:R.Fn 509 Wt:=⟨by kernel_rfl⟩
theorem Ls:Qs R:=⟨aeV,iO⟩
theorem aeW:R.Fn 499 Wu:=⟨by kernel_rfl⟩
theorem Fe:Qt R:=⟨aeW,iO,Ls⟩
theorem aeX:R.Fn 510 XC:=⟨by kernel_rfl⟩
theorem jK:LL R:=⟨aeX,QL⟩
theorem aeY:R.Fn 500 XE:=⟨by kernel_rfl⟩
theorem Ff:Ra R:=⟨aeY,jK⟩
theorem aeZ:R.Fn 514 Xw:=⟨by kernel_rfl⟩
theorem vi:LH R:=⟨aeZ⟩
theorem ae0:R.Fn 511 XF:=⟨by kernel_rfl⟩
theorem LO:Rc R:=⟨ae0,vi⟩
theorem ae1:R.Fn 512 Xx:=⟨by kernel_rfl⟩
theorem LP:Q6 R:=⟨ae1⟩
theorem ae2:R.Fn 513 XH:=⟨by kernel_rfl⟩
theorem zR:Re R:=⟨ae2⟩
theorem ae3:R.Fn 502 XI:=⟨by kernel_rfl⟩
theorem LR:LN R:=⟨ae3,n242,LO,LP,zR,vi⟩
theorem ae4:R.Fn 503 XK:=⟨by kernel_rfl⟩
theorem Fg:Rf R:=⟨ae4⟩
theorem ae5:R.Fn 501 XN:=⟨by kernel_rfl⟩
theorem ae6:XO R:=⟨ae5,n47,Rq,tJ,Fa,Fb,Fc,Fe,Ff,LR,Fg⟩
end Go.Proofs.YtnfgjmbcfcnieaaGreat
