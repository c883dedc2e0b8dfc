/- The program, as the machine has it. -/
import Derived.Test.YtnfgjmbcfcnieaaGreatU0
import Derived.Test.YtnfgjmbcfcnieaaGreatProg
namespace Go.Proofs.YtnfgjmbcfcnieaaGreat
open Go.AM Go.UM
noncomputable def tt:TT:=Oh
 [.aU,
  .func,
  .int .i64,
  .int .i64,
  .bool,
  .int .u8,
  .int .u8,
  .struct [(0,2),(1,3),(2,4),(3,6)],
  .struct [(0,2),(1,3),(2,4),(3,6)],
  .str,
  .str,
  .str,
  .int .u64,
  .struct [(0,9),(1,12)],
  .struct [(0,9),(1,12)],
  .ptr 287,
  .ptr 290,
  .ptr 299,
  .struct [(0,17)],
  .struct [(0,17)],
  .iface,
  .int .i32,
  .slice 53,
  .int .u64,
  .int .u32,
  .arr 8 5,
  .struct [(0,23),(1,3),(2,24),(3,25),(11,24),(12,24),(13,3),(14,3)],
  .struct [(0,23),(1,3),(2,24),(3,25),(11,24),(12,24),(13,3),(14,3)],
  .slice 39,
  .slice 74,
  .slice 35,
  .struct [(0,28),(1,29),(2,30)],
  .struct [(0,28),(1,29),(2,30)],
  .struct [(0,3),(1,30)],
  .struct [(0,3),(1,30)],
  .arr 3 3,
  .struct [(0,3),(1,35),(4,3)],
  .struct [(0,3),(1,35),(4,3)],
  .struct [(0,3),(1,3),(2,3)],
  .struct [(0,3),(1,3),(2,3)],
  .struct [(0,3),(1,35),(4,39),(7,39),(10,39)],
  .struct [(0,3),(1,35),(4,39),(7,39),(10,39)],
  .struct [(0,3),(1,32),(4,34),(6,37),(11,41)],
  .struct [(0,3),(1,32),(4,34),(6,37),(11,41)],
  .int .i64,
  .arr 9 44,
  .struct [(0,44),(1,44),(2,44)],
  .struct [(0,44),(1,44),(2,44)],
  .struct [(0,45),(9,47)],
  .struct [(0,45),(9,47)],
  .struct [(0,3),(1,3),(2,3),(3,3),(4,49)],
  .struct [(0,3),(1,3),(2,3),(3,3),(4,49)],
  .struct [(0,3),(1,3),(2,27),(17,43),(41,51)],
  .struct [(0,3),(1,3),(2,27),(17,43),(41,51)],
  .func,
  .ptr 90,
  .ptr 97,
  .aU,
  .func,
  .slice 77,
  .slice 37,
  .slice 34,
  .slice 41,
  .slice 23,
  .slice 24,
  .struct [(0,59),(1,60),(2,61),(3,62),(4,63),(5,64),(6,24),(7,24),(8,24)],
  .struct [(0,59),(1,60),(2,61),(3,62),(4,63),(5,64),(6,24),(7,24),(8,24)],
  .int .i64,
  .aU,
  .func,
  .func,
  .func,
  .func,
  .arr 3 39,
  .arr 2 3,
  .arr 3 74,
  .struct [(0,73),(9,75),(15,3),(16,3),(17,3),(18,5)],
  .struct [(0,73),(9,75),(15,3),(16,3),(17,3),(18,5)],
  .aU,
  .func,
  .func,
  .func,
  .slice 5,
  .func,
  .func,
  .aU,
  .func,
  .map 3 123,
  .map 137 49,
  .struct [(0,87),(1,88)],
  .struct [(0,87),(1,88)],
  .func,
  .func,
  .func,
  .slice 123,
  .slice 51,
  .struct [(0,94),(1,95)],
  .struct [(0,94),(1,95)],
  .func,
  .func,
  .func,
  .ptr 104,
  .map 3 3,
  .struct [(0,66),(9,87),(10,102),(11,102)],
  .struct [(0,66),(9,87),(10,102),(11,102)],
  .func,
  .func,
  .func,
  .func,
  .func,
  .func,
  .func,
  .func,
  .func,
  .ptr 116,
  .struct [(0,82)],
  .struct [(0,82)],
  .func,
  .func,
  .slice 3,
  .func,
  .func,
  .struct [(0,3),(1,27),(16,43)],
  .struct [(0,3),(1,27),(16,43)],
  .func,
  .func,
  .func,
  .aU,
  .func,
  .func,
  .func,
  .func,
  .func,
  .func,
  .func,
  .func,
  .struct [(0,3),(1,3),(2,3),(3,3)],
  .struct [(0,3),(1,3),(2,3),(3,3)],
  .func,
  .func,
  .aU,
  .func,
  .func,
  .func,
  .func,
  .func,
  .func,
  .func,
  .func,
  .func,
  .func,
  .aU,
  .aU,
  .aU,
  .func,
  .func,
  .aU,
  .aU,
  .func,
  .aU,
  .func,
  .func,
  .func,
  .func,
  .func,
  .func,
  .func,
  .func,
  .func,
  .func,
  .func,
  .slice 27,
  .arr 2 24,
  .func,
  .func,
  .func,
  .func,
  .func,
  .func,
  .func,
  .func,
  .func,
  .int .u64,
  .func,
  .func,
  .func,
  .func,
  .func,
  .func,
  .func,
  .func,
  .func,
  .func,
  .func,
  .func,
  .func,
  .func,
  .func,
  .func,
  .func,
  .func,
  .func,
  .func,
  .func,
  .func,
  .int .i64,
  .aU,
  .func,
  .func,
  .func,
  .func,
  .func,
  .func,
  .func,
  .func,
  .func,
  .func,
  .func,
  .func,
  .func,
  .func,
  .func,
  .func,
  .func,
  .arr 5 3,
  .func,
  .func,
  .slice 44,
  .func,
  .func,
  .func,
  .func,
  .func,
  .func,
  .func,
  .func,
  .func,
  .func,
  .func,
  .func,
  .func,
  .int .u64,
  .func,
  .func,
  .func,
  .ptr 3,
  .func,
  .slice 47,
  .func,
  .func,
  .func,
  .func,
  .struct [(0,2),(1,23)],
  .struct [(0,2),(1,23)],
  .func,
  .func,
  .func,
  .func,
  .func,
  .func,
  .func,
  .func,
  .func,
  .func,
  .func,
  .ptr 241,
  .func,
  .aU,
  .func,
  .aU,
  .func,
  .aU,
  .func,
  .aU,
  .func,
  .func,
  .func,
  .func,
  .func,
  .func,
  .func,
  .func,
  .func,
  .func,
  .func,
  .func,
  .struct [(0,17),(1,17),(2,17),(3,9)],
  .struct [(0,17),(1,17),(2,17),(3,9)],
  .arr 0 16,
  .struct [(0,288)],
  .struct [(0,288)],
  .func,
  .int .u8,
  .int .u8,
  .func,
  .ptr 5,
  .int .i32,
  .int .i32,
  .struct [(0,12),(1,12),(2,24),(3,292),(4,5),(5,5),(6,293),(7,294),(8,295),(9,296),(10,297)],
  .struct [(0,12),(1,12),(2,24),(3,292),(4,5),(5,5),(6,293),(7,294),(8,295),(9,296),(10,297)],
  .other]
 [1,1,1,1,1,1,1,4,4,1,1,1,1,2,2,1,1,1,1,1,1,1,1,1,1,8,15,15,1,1,1,3,3,2,2,3,5,5,3,3,13,13,24,24,1,9,3,3,12,12,16,16,57,57,1,1,1,1,1,1,1,1,1,1,1,9,9,1,1,1,1,1,1,9,2,6,19,19,1,1,1,1,1,1,1,1,1,1,1,2,2,1,1,1,1,1,2,2,1,1,1,1,1,12,12,1,1,1,1,1,1,1,1,1,1,1,1,1,1,1,1,1,40,40,1,1,1,1,1,1,1,1,1,1,1,1,4,4,1,1,1,1,1,1,1,1,1,1,1,1,1,1,1,1,1,1,1,1,1,1,1,1,1,1,1,1,1,1,1,1,1,1,2,1,1,1,1,1,1,1,1,1,1,1,1,1,1,1,1,1,1,1,1,1,1,1,1,1,1,1,1,1,1,1,1,1,1,1,1,1,1,1,1,1,1,1,1,1,1,1,1,1,1,1,5,1,1,1,1,1,1,1,1,1,1,1,1,1,1,1,1,1,1,1,1,1,1,1,1,1,1,1,2,2,1,1,1,1,1,1,1,1,1,1,1,1,1,1,1,1,1,1,1,1,1,1,1,1,1,1,1,1,1,1,1,1,4,4,0,0,0,1,1,1,1,1,1,1,11,11,1]
 [.aU [],
  .au,
  .int .i64 0,
  .int .i64 0,
  .bool false,
  .int .u8 0,
  .int .u8 0,
  .agg [.int .i64 0,.int .i64 0,.bool false,.int .u8 0],
  .agg [.int .i64 0,.int .i64 0,.bool false,.int .u8 0],
  .str [],
  .str [],
  .str [],
  .int .u64 0,
  .agg [.str [],.int .u64 0],
  .agg [.str [],.int .u64 0],
  .bU,
  .bU,
  .bU,
  .agg [.bU],
  .agg [.bU],
  .dL,
  .int .i32 0,
  .an,
  .int .u64 0,
  .int .u32 0,
  .agg [.int .u8 0,.int .u8 0,.int .u8 0,.int .u8 0,.int .u8 0,.int .u8 0,.int .u8 0,.int .u8 0],
  .agg [.int .u64 0,.int .i64 0,.int .u32 0,.int .u8 0,.int .u8 0,.int .u8 0,.int .u8 0,.int .u8 0,.int .u8 0,.int .u8 0,.int .u8 0,.int .u32 0,.int .u32 0,.int .i64 0,.int .i64 0],
  .agg [.int .u64 0,.int .i64 0,.int .u32 0,.int .u8 0,.int .u8 0,.int .u8 0,.int .u8 0,.int .u8 0,.int .u8 0,.int .u8 0,.int .u8 0,.int .u32 0,.int .u32 0,.int .i64 0,.int .i64 0],
  .an,
  .an,
  .an,
  .agg [.an,.an,.an],
  .agg [.an,.an,.an],
  .agg [.int .i64 0,.an],
  .agg [.int .i64 0,.an],
  .agg [.int .i64 0,.int .i64 0,.int .i64 0],
  .agg [.int .i64 0,.int .i64 0,.int .i64 0,.int .i64 0,.int .i64 0],
  .agg [.int .i64 0,.int .i64 0,.int .i64 0,.int .i64 0,.int .i64 0],
  .agg [.int .i64 0,.int .i64 0,.int .i64 0],
  .agg [.int .i64 0,.int .i64 0,.int .i64 0],
  .agg [.int .i64 0,.int .i64 0,.int .i64 0,.int .i64 0,.int .i64 0,.int .i64 0,.int .i64 0,.int .i64 0,.int .i64 0,.int .i64 0,.int .i64 0,.int .i64 0,.int .i64 0],
  .agg [.int .i64 0,.int .i64 0,.int .i64 0,.int .i64 0,.int .i64 0,.int .i64 0,.int .i64 0,.int .i64 0,.int .i64 0,.int .i64 0,.int .i64 0,.int .i64 0,.int .i64 0],
  .agg [.int .i64 0,.an,.an,.an,.int .i64 0,.an,.int .i64 0,.int .i64 0,.int .i64 0,.int .i64 0,.int .i64 0,.int .i64 0,.int .i64 0,.int .i64 0,.int .i64 0,.int .i64 0,.int .i64 0,.int .i64 0,.int .i64 0,.int .i64 0,.int .i64 0,.int .i64 0,.int .i64 0,.int .i64 0],
  .agg [.int .i64 0,.an,.an,.an,.int .i64 0,.an,.int .i64 0,.int .i64 0,.int .i64 0,.int .i64 0,.int .i64 0,.int .i64 0,.int .i64 0,.int .i64 0,.int .i64 0,.int .i64 0,.int .i64 0,.int .i64 0,.int .i64 0,.int .i64 0,.int .i64 0,.int .i64 0,.int .i64 0,.int .i64 0],
  .int .i64 0,
  .agg [.int .i64 0,.int .i64 0,.int .i64 0,.int .i64 0,.int .i64 0,.int .i64 0,.int .i64 0,.int .i64 0,.int .i64 0],
  .agg [.int .i64 0,.int .i64 0,.int .i64 0],
  .agg [.int .i64 0,.int .i64 0,.int .i64 0],
  .agg [.int .i64 0,.int .i64 0,.int .i64 0,.int .i64 0,.int .i64 0,.int .i64 0,.int .i64 0,.int .i64 0,.int .i64 0,.int .i64 0,.int .i64 0,.int .i64 0],
  .agg [.int .i64 0,.int .i64 0,.int .i64 0,.int .i64 0,.int .i64 0,.int .i64 0,.int .i64 0,.int .i64 0,.int .i64 0,.int .i64 0,.int .i64 0,.int .i64 0],
  .agg [.int .i64 0,.int .i64 0,.int .i64 0,.int .i64 0,.int .i64 0,.int .i64 0,.int .i64 0,.int .i64 0,.int .i64 0,.int .i64 0,.int .i64 0,.int .i64 0,.int .i64 0,.int .i64 0,.int .i64 0,.int .i64 0],
  .agg [.int .i64 0,.int .i64 0,.int .i64 0,.int .i64 0,.int .i64 0,.int .i64 0,.int .i64 0,.int .i64 0,.int .i64 0,.int .i64 0,.int .i64 0,.int .i64 0,.int .i64 0,.int .i64 0,.int .i64 0,.int .i64 0],
  .agg [.int .i64 0,.int .i64 0,.int .u64 0,.int .i64 0,.int .u32 0,.int .u8 0,.int .u8 0,.int .u8 0,.int .u8 0,.int .u8 0,.int .u8 0,.int .u8 0,.int .u8 0,.int .u32 0,.int .u32 0,.int .i64 0,.int .i64 0,.int .i64 0,.an,.an,.an,.int .i64 0,.an,.int .i64 0,.int .i64 0,.int .i64 0,.int .i64 0,.int .i64 0,.int .i64 0,.int .i64 0,.int .i64 0,.int .i64 0,.int .i64 0,.int .i64 0,.int .i64 0,.int .i64 0,.int .i64 0,.int .i64 0,.int .i64 0,.int .i64 0,.int .i64 0,.int .i64 0,.int .i64 0,.int .i64 0,.int .i64 0,.int .i64 0,.int .i64 0,.int .i64 0,.int .i64 0,.int .i64 0,.int .i64 0,.int .i64 0,.int .i64 0,.int .i64 0,.int .i64 0,.int .i64 0,.int .i64 0],
  .agg [.int .i64 0,.int .i64 0,.int .u64 0,.int .i64 0,.int .u32 0,.int .u8 0,.int .u8 0,.int .u8 0,.int .u8 0,.int .u8 0,.int .u8 0,.int .u8 0,.int .u8 0,.int .u32 0,.int .u32 0,.int .i64 0,.int .i64 0,.int .i64 0,.an,.an,.an,.int .i64 0,.an,.int .i64 0,.int .i64 0,.int .i64 0,.int .i64 0,.int .i64 0,.int .i64 0,.int .i64 0,.int .i64 0,.int .i64 0,.int .i64 0,.int .i64 0,.int .i64 0,.int .i64 0,.int .i64 0,.int .i64 0,.int .i64 0,.int .i64 0,.int .i64 0,.int .i64 0,.int .i64 0,.int .i64 0,.int .i64 0,.int .i64 0,.int .i64 0,.int .i64 0,.int .i64 0,.int .i64 0,.int .i64 0,.int .i64 0,.int .i64 0,.int .i64 0,.int .i64 0,.int .i64 0,.int .i64 0],
  .au,
  .bU,
  .bU,
  .aU [.bU,.bU],
  .au,
  .an,
  .an,
  .an,
  .an,
  .an,
  .an,
  .agg [.an,.an,.an,.an,.an,.an,.int .u32 0,.int .u32 0,.int .u32 0],
  .agg [.an,.an,.an,.an,.an,.an,.int .u32 0,.int .u32 0,.int .u32 0],
  .int .i64 0,
  .aU [.bad,.int .i64 0],
  .au,
  .au,
  .au,
  .au,
  .agg [.int .i64 0,.int .i64 0,.int .i64 0,.int .i64 0,.int .i64 0,.int .i64 0,.int .i64 0,.int .i64 0,.int .i64 0],
  .agg [.int .i64 0,.int .i64 0],
  .agg [.int .i64 0,.int .i64 0,.int .i64 0,.int .i64 0,.int .i64 0,.int .i64 0],
  .agg [.int .i64 0,.int .i64 0,.int .i64 0,.int .i64 0,.int .i64 0,.int .i64 0,.int .i64 0,.int .i64 0,.int .i64 0,.int .i64 0,.int .i64 0,.int .i64 0,.int .i64 0,.int .i64 0,.int .i64 0,.int .i64 0,.int .i64 0,.int .i64 0,.int .u8 0],
  .agg [.int .i64 0,.int .i64 0,.int .i64 0,.int .i64 0,.int .i64 0,.int .i64 0,.int .i64 0,.int .i64 0,.int .i64 0,.int .i64 0,.int .i64 0,.int .i64 0,.int .i64 0,.int .i64 0,.int .i64 0,.int .i64 0,.int .i64 0,.int .i64 0,.int .u8 0],
  .aU [.int .i64 0,.int .i64 0],
  .au,
  .au,
  .au,
  .an,
  .au,
  .au,
  .aU [.bad,.int .i64 0],
  .au,
  .ci,
  .ci,
  .agg [.ci,.ci],
  .agg [.ci,.ci],
  .au,
  .au,
  .au,
  .an,
  .an,
  .agg [.an,.an],
  .agg [.an,.an],
  .au,
  .au,
  .au,
  .bU,
  .ci,
  .agg [.an,.an,.an,.an,.an,.an,.int .u32 0,.int .u32 0,.int .u32 0,.ci,.ci,.ci],
  .agg [.an,.an,.an,.an,.an,.an,.int .u32 0,.int .u32 0,.int .u32 0,.ci,.ci,.ci],
  .au,
  .au,
  .au,
  .au,
  .au,
  .au,
  .au,
  .au,
  .au,
  .bU,
  .agg [.an],
  .agg [.an],
  .au,
  .au,
  .an,
  .au,
  .au,
  .agg [.int .i64 0,.int .u64 0,.int .i64 0,.int .u32 0,.int .u8 0,.int .u8 0,.int .u8 0,.int .u8 0,.int .u8 0,.int .u8 0,.int .u8 0,.int .u8 0,.int .u32 0,.int .u32 0,.int .i64 0,.int .i64 0,.int .i64 0,.an,.an,.an,.int .i64 0,.an,.int .i64 0,.int .i64 0,.int .i64 0,.int .i64 0,.int .i64 0,.int .i64 0,.int .i64 0,.int .i64 0,.int .i64 0,.int .i64 0,.int .i64 0,.int .i64 0,.int .i64 0,.int .i64 0,.int .i64 0,.int .i64 0,.int .i64 0,.int .i64 0],
  .agg [.int .i64 0,.int .u64 0,.int .i64 0,.int .u32 0,.int .u8 0,.int .u8 0,.int .u8 0,.int .u8 0,.int .u8 0,.int .u8 0,.int .u8 0,.int .u8 0,.int .u32 0,.int .u32 0,.int .i64 0,.int .i64 0,.int .i64 0,.an,.an,.an,.int .i64 0,.an,.int .i64 0,.int .i64 0,.int .i64 0,.int .i64 0,.int .i64 0,.int .i64 0,.int .i64 0,.int .i64 0,.int .i64 0,.int .i64 0,.int .i64 0,.int .i64 0,.int .i64 0,.int .i64 0,.int .i64 0,.int .i64 0,.int .i64 0,.int .i64 0],
  .au,
  .au,
  .au,
  .aU [.bad,.int .i64 0],
  .au,
  .au,
  .au,
  .au,
  .au,
  .au,
  .au,
  .au,
  .agg [.int .i64 0,.int .i64 0,.int .i64 0,.int .i64 0],
  .agg [.int .i64 0,.int .i64 0,.int .i64 0,.int .i64 0],
  .au,
  .au,
  .aU [.int .u32 0,.int .u32 0],
  .au,
  .au,
  .au,
  .au,
  .au,
  .au,
  .au,
  .au,
  .au,
  .au,
  .aU [.bad,.bool false],
  .aU [.int .i64 0,.bool false],
  .aU [.bad,.int .i64 0],
  .au,
  .au,
  .aU [.bad,.bool false],
  .aU [.an,.int .i64 0],
  .au,
  .aU [.an,.int .i64 0],
  .au,
  .au,
  .au,
  .au,
  .au,
  .au,
  .au,
  .au,
  .au,
  .au,
  .au,
  .an,
  .agg [.int .u32 0,.int .u32 0],
  .au,
  .au,
  .au,
  .au,
  .au,
  .au,
  .au,
  .au,
  .au,
  .int .u64 0,
  .au,
  .au,
  .au,
  .au,
  .au,
  .au,
  .au,
  .au,
  .au,
  .au,
  .au,
  .au,
  .au,
  .au,
  .au,
  .au,
  .au,
  .au,
  .au,
  .au,
  .au,
  .au,
  .int .i64 0,
  .aU [.int .i64 0,.int .i64 0],
  .au,
  .au,
  .au,
  .au,
  .au,
  .au,
  .au,
  .au,
  .au,
  .au,
  .au,
  .au,
  .au,
  .au,
  .au,
  .au,
  .au,
  .agg [.int .i64 0,.int .i64 0,.int .i64 0,.int .i64 0,.int .i64 0],
  .au,
  .au,
  .an,
  .au,
  .au,
  .au,
  .au,
  .au,
  .au,
  .au,
  .au,
  .au,
  .au,
  .au,
  .au,
  .au,
  .int .u64 0,
  .au,
  .au,
  .au,
  .bU,
  .au,
  .an,
  .au,
  .au,
  .au,
  .au,
  .agg [.int .i64 0,.int .u64 0],
  .agg [.int .i64 0,.int .u64 0],
  .au,
  .au,
  .au,
  .au,
  .au,
  .au,
  .au,
  .au,
  .au,
  .au,
  .au,
  .bU,
  .au,
  .aU [.int .i64 0,.bool false],
  .au,
  .aU [.int .u64 0,.bool false],
  .au,
  .aU [.int .u64 0,.int .u64 0],
  .au,
  .aU [.bad,.bool false],
  .au,
  .au,
  .au,
  .au,
  .au,
  .au,
  .au,
  .au,
  .au,
  .au,
  .au,
  .au,
  .agg [.bU,.bU,.bU,.str []],
  .agg [.bU,.bU,.bU,.str []],
  .agg [],
  .agg [],
  .agg [],
  .au,
  .int .u8 0,
  .int .u8 0,
  .au,
  .bU,
  .int .i32 0,
  .int .i32 0,
  .agg [.int .u64 0,.int .u64 0,.int .u32 0,.int .u8 0,.int .u8 0,.int .u8 0,.int .u8 0,.au,.bU,.int .i32 0,.int .i32 0],
  .agg [.int .u64 0,.int .u64 0,.int .u32 0,.int .u8 0,.int .u8 0,.int .u8 0,.int .u8 0,.au,.bU,.int .i32 0,.int .i32 0],
  .bU]
theorem hT:PT Tryz.prog tt:=⟨JS 301 (by kernel_rfl) (by kernel_rfl) (by kernel_rfl),by kernel_rfl⟩
def ftl:List (Nat × Nat):=[(4,54),(11,63),(12,53),(14,55),(16,80),(17,81),(18,82),(19,83),(37,102),(38,118),(47,16),(54,103),(55,105),(62,147),(63,104),(71,67),(72,68),(82,146),(83,156),(84,139),(85,113),(89,31),(100,186),(101,89),(106,204),(191,43),(193,138),(196,145),(197,155),(198,111),(206,180),(207,181),(208,182),(209,183),(210,184),(211,185),(212,157),(213,154),(217,201),(218,202),(219,203),(221,34),(231,136),(232,109),(233,96),(234,71),(235,94),(236,69),(241,64),(242,42),(243,95),(244,70),(246,135),(248,137),(249,97),(251,177),(252,176),(253,151),(254,108),(255,132),(256,133),(257,106),(259,72),(260,134),(261,107),(262,173),(263,174),(264,179),(265,178),(266,196),(267,175),(268,190),(269,150),(270,172),(271,148),(272,110),(273,149),(274,197),(275,198),(276,199),(277,200),(278,208),(279,152),(280,153),(281,195),(282,189),(283,210),(284,209),(285,212),(286,213),(287,214),(290,140),(291,115),(292,141),(293,116),(294,65),(295,76),(298,99),(307,187),(308,188),(309,98),(310,100),(311,101),(312,112),(313,114),(314,117),(315,142),(316,143),(317,144),(322,206),(323,205),(324,211),(345,21),(346,32),(347,33),(355,50),(356,58),(357,66),(358,62),(361,87),(362,88),(404,130),(418,27),(419,28),(420,22),(421,23),(427,45),(428,44),(430,25),(432,24),(433,57),(434,56),(435,59),(436,60),(437,74),(438,73),(439,51),(440,52),(441,46),(442,47),(443,48),(444,49),(445,84),(446,85),(447,86),(448,91),(449,90),(450,61),(451,93),(452,92),(454,75),(455,77),(456,78),(457,119),(458,120),(459,121),(460,122),(461,123),(462,124),(463,125),(464,126),(465,127),(466,128),(467,129),(468,131),(469,158),(470,159),(471,160),(472,161),(473,162),(474,163),(475,164),(476,165),(477,166),(478,167),(479,168),(480,169),(481,170),(482,171),(483,191),(484,192),(485,193),(486,194),(487,207),(488,3),(489,7),(490,8),(491,9),(492,10),(493,11),(494,4),(495,12),(496,13),(497,5),(498,14),(499,15),(500,17),(501,6),(502,18),(503,19),(504,20),(505,26),(506,29),(507,30),(508,35),(509,36),(510,37),(511,38),(512,39),(513,40),(514,41)]
def tyl:List (Nat × Nat):=[(0,24),(1,25),(2,27),(3,172),(4,5),(5,224),(6,23),(10,3),(12,34),(13,35),(14,61),(18,74),(22,119),(23,9),(25,32),(26,39),(28,73),(29,75),(31,47),(32,44),(33,49),(37,45),(38,253),(39,43),(40,37),(41,41),(44,51),(45,123),(46,4),(47,90),(48,94),(49,137),(51,82),(55,53),(56,97),(57,87),(58,241),(59,66),(60,77),(61,104),(62,116)]
noncomputable def R:Env:= {P:=Tryz.prog,T:=tt,ok:=hT,ft:=Vf ftl,ty:=Vf tyl}
theorem h16:R.Fn 16 Y9:=⟨by kernel_rfl⟩
theorem n16:VJ R:=⟨h16⟩
theorem h17:R.Fn 17 Za:=⟨by kernel_rfl⟩
theorem n17:TE R:=⟨h17⟩
theorem h4:R.Fn 4 c4:=⟨by kernel_rfl⟩
theorem n4:N4 R:=⟨h4,n16,n17⟩
theorem GL:R.Fn 11 Zb:=⟨by kernel_rfl⟩
theorem n11:TF R:=⟨GL⟩
theorem F7:R.Fn 12 Zc:=⟨by kernel_rfl⟩
theorem n12:VL R:=⟨F7,n11⟩
theorem h18:R.Fn 18 Ze:=⟨by kernel_rfl⟩
theorem n18:VM R:=⟨h18⟩
theorem h19:R.Fn 19 Zg:=⟨by kernel_rfl⟩
theorem n19:TG R:=⟨h19⟩
theorem UK:R.Fn 14 Zi:=⟨by kernel_rfl⟩
theorem n14:VN R:=⟨UK,n18,n19⟩
theorem h37:R.Fn 37 Y4:=⟨by kernel_rfl⟩
theorem n37:VE R:=⟨h37⟩
theorem h47:R.Fn 47 Y0:=⟨by kernel_rfl⟩
theorem n47:Vs R:=⟨h47⟩
theorem h62:R.Fn 62 Y1:=⟨by kernel_rfl⟩
theorem n62:Vu R:=⟨h62⟩
theorem h54:R.Fn 54 Y2:=⟨by kernel_rfl⟩
theorem Gc:Le R:=⟨h54,n62⟩
theorem YB:R.Fn 63 Zk:=⟨by kernel_rfl⟩
theorem Ge:TH R:=⟨YB⟩
theorem h55:R.Fn 55 Zl:=⟨by kernel_rfl⟩
theorem V2:V1 R:=⟨h55,Ge⟩
theorem h71:R.Fn 71 Y3:=⟨by kernel_rfl⟩
theorem Gd:Lf R:=⟨h71,Gc⟩
theorem h72:R.Fn 72 Zm:=⟨by kernel_rfl⟩
theorem TL:TJ R:=⟨h72,V2,Ge⟩
theorem Ww:R.Fn 106 Pk:=⟨by kernel_rfl⟩
theorem n106:Kv R:=⟨Ww⟩
theorem Wx:R.Fn 100 Pm:=⟨by kernel_rfl⟩
theorem n100:Kw R:=⟨Wx,n106⟩
theorem h84:R.Fn 84 Y6:=⟨by kernel_rfl⟩
theorem Jc:TB R:=⟨h84,n100⟩
theorem h82:R.Fn 82 Y7:=⟨by kernel_rfl⟩
theorem TC:VH R:=⟨h82,Jc⟩
theorem h89:R.Fn 89 Zn:=⟨by kernel_rfl⟩
theorem TK:V3 R:=⟨h89⟩
theorem Wy:R.Fn 101 Po:=⟨by kernel_rfl⟩
theorem n101:Ha R:=⟨Wy⟩
theorem WA:R.Fn 206 QJ:=⟨by kernel_rfl⟩
theorem n206:Lg R:=⟨WA⟩
theorem WB:R.Fn 207 QL:=⟨by kernel_rfl⟩
theorem n207:Lh R:=⟨WB⟩
theorem WC:R.Fn 208 QN:=⟨by kernel_rfl⟩
theorem n208:Li R:=⟨WC⟩
theorem WD:R.Fn 217 Pp:=⟨by kernel_rfl⟩
theorem n217:Kz R:=⟨WD⟩
theorem WE:R.Fn 209 Pr:=⟨by kernel_rfl⟩
theorem n209:KA R:=⟨WE,n217⟩
theorem WF:R.Fn 218 Pt:=⟨by kernel_rfl⟩
theorem n218:KB R:=⟨WF⟩
theorem WG:R.Fn 210 Pv:=⟨by kernel_rfl⟩
theorem n210:KC R:=⟨WG,n218⟩
theorem WH:R.Fn 219 Px:=⟨by kernel_rfl⟩
theorem n219:KD R:=⟨WH⟩
theorem WI:R.Fn 211 Py:=⟨by kernel_rfl⟩
theorem n211:KE R:=⟨WI,n219⟩
theorem WJ:R.Fn 193 QO:=⟨by kernel_rfl⟩
theorem n193:Hs R:=⟨WJ,n206,n207,n208,n209,n210,n211⟩
theorem WK:R.Fn 196 QP:=⟨by kernel_rfl⟩
theorem n196:Lk R:=⟨WK,Gc,Gd,n193⟩
theorem WL:R.Fn 221 Qx:=⟨by kernel_rfl⟩
theorem n221:K8 R:=⟨WL⟩
theorem WM:R.Fn 251 Qz:=⟨by kernel_rfl⟩
theorem n251:K9 R:=⟨WM⟩
theorem WN:R.Fn 262 Ql:=⟨by kernel_rfl⟩
theorem n262:Ex R:=⟨WN⟩
theorem WO:R.Fn 275 PZ:=⟨by kernel_rfl⟩
theorem n275:KO R:=⟨WO⟩
theorem WP:R.Fn 276 PA:=⟨by kernel_rfl⟩
theorem n276:KF R:=⟨WP⟩
theorem WQ:R.Xn 286 "math/bits.Sub64" :=⟨by kernel_rfl⟩
theorem n286:PC R:=⟨WQ⟩
theorem WR:R.Fn 283 P0:=⟨by kernel_rfl⟩
theorem n283:KR R:=⟨WR,n286⟩
theorem WS:R.Fn 277 P3:=⟨by kernel_rfl⟩
theorem n277:KT R:=⟨WS,n283⟩
theorem WT:R.Fn 264 P5:=⟨by kernel_rfl⟩
theorem n264:Hd R:=⟨WT,n275,n276,n277⟩
theorem WU:R.Fn 274 P6:=⟨by kernel_rfl⟩
theorem n274:He R:=⟨WU⟩
theorem WV:R.Fn 265 Qa:=⟨by kernel_rfl⟩
theorem n265:Hg R:=⟨WV,n274⟩
theorem WW:R.Fn 287 P7:=⟨by kernel_rfl⟩
theorem n287:P8 R:=⟨WW⟩
theorem WX:R.Fn 285 P9:=⟨by kernel_rfl⟩
theorem n285:KV R:=⟨WX,n287⟩
theorem WY:R.Fn 284 Qb:=⟨by kernel_rfl⟩
theorem n284:KX R:=⟨WY,n264,n265,n285⟩
theorem WZ:R.Fn 278 Qm:=⟨by kernel_rfl⟩
theorem n278:Hm R:=⟨WZ,n284⟩
theorem W4:R.Fn 266 Qn:=⟨by kernel_rfl⟩
theorem n266:K3 R:=⟨W4,n262,n278⟩
theorem W5:R.Fn 267 Qd:=⟨by kernel_rfl⟩
theorem n267:Hh R:=⟨W5⟩
theorem W6:R.Fn 252 Qp:=⟨by kernel_rfl⟩
theorem n252:K4 R:=⟨W6,n266,n267⟩
theorem W7:R.Fn 231 QA:=⟨by kernel_rfl⟩
theorem n231:La R:=⟨W7,n251,n252⟩
theorem W8:R.Fn 263 Qq:=⟨by kernel_rfl⟩
theorem n263:Hp R:=⟨W8,n267⟩
theorem W9:R.Fn 246 Qr:=⟨by kernel_rfl⟩
theorem n246:K5 R:=⟨W9,n262,n263⟩
theorem Xa:R.Fn 233 QC:=⟨by kernel_rfl⟩
theorem n233:Lb R:=⟨Xa,n231,n246⟩
theorem Xb:R.Fn 281 Qe:=⟨by kernel_rfl⟩
theorem n281:KZ R:=⟨Xb⟩
theorem Xc:R.Fn 270 Qg:=⟨by kernel_rfl⟩
theorem n270:K0 R:=⟨Xc,n281⟩
theorem Xd:R.Fn 255 Qi:=⟨by kernel_rfl⟩
theorem n255:Hi R:=⟨Xd,n270⟩
theorem Xe:R.Fn 256 Qt:=⟨by kernel_rfl⟩
theorem n256:K6 R:=⟨Xe,n255⟩
theorem Xf:R.Fn 235 QE:=⟨by kernel_rfl⟩
theorem n235:Lc R:=⟨Xf,n255,n256⟩
theorem Xg:R.Fn 260 Qj:=⟨by kernel_rfl⟩
theorem n260:K1 R:=⟨Xg⟩
theorem Xh:R.Fn 243 QG:=⟨by kernel_rfl⟩
theorem n243:Ld R:=⟨Xh,n260⟩
theorem Xi:R.Fn 248 Qk:=⟨by kernel_rfl⟩
theorem n248:K2 R:=⟨Xi,n264,n265⟩
theorem Xj:R.Fn 249 Qv:=⟨by kernel_rfl⟩
theorem n249:K7 R:=⟨Xj,n248⟩
theorem Xk:R.Fn 241 QI:=⟨by kernel_rfl⟩
theorem n241:Hr R:=⟨Xk,n233,n235,n243,n249⟩
theorem Xl:R.Fn 322 QR:=⟨by kernel_rfl⟩
theorem n322:Ll R:=⟨Xl⟩
theorem Xm:R.Fn 324 PE:=⟨by kernel_rfl⟩
theorem n324:KG R:=⟨Xm⟩
theorem Xo:R.Fn 323 PF:=⟨by kernel_rfl⟩
theorem n323:KH R:=⟨Xo,n324⟩
theorem Xp:R.Fn 307 QS:=⟨by kernel_rfl⟩
theorem n307:Ht R:=⟨Xp,n322,n323⟩
theorem Xq:R.Fn 290 QT:=⟨by kernel_rfl⟩
theorem n290:Lm R:=⟨Xq,n307⟩
theorem Xr:R.Fn 308 QV:=⟨by kernel_rfl⟩
theorem n308:Ln R:=⟨Xr⟩
theorem Xs:R.Fn 292 QW:=⟨by kernel_rfl⟩
theorem n292:Lo R:=⟨Xs,n307,n308⟩
theorem Xt:R.Fn 315 QY:=⟨by kernel_rfl⟩
theorem n315:Lp R:=⟨Xt⟩
theorem Xu:R.Fn 316 Q0:=⟨by kernel_rfl⟩
theorem n316:Lq R:=⟨Xu⟩
theorem Xv:R.Fn 317 Q2:=⟨by kernel_rfl⟩
theorem n317:Lr R:=⟨Xv⟩
theorem Xw:R.Fn 298 Q3:=⟨by kernel_rfl⟩
theorem n298:Lt R:=⟨Xw,n315,n316,n317⟩
theorem Xx:R.Fn 309 Q5:=⟨by kernel_rfl⟩
theorem n309:Lu R:=⟨Xx,Jc,n193,n290,n292⟩
theorem Xy:R.Fn 310 Q7:=⟨by kernel_rfl⟩
theorem n310:Lv R:=⟨Xy⟩
theorem Xz:R.Fn 311 Q9:=⟨by kernel_rfl⟩
theorem n311:Lw R:=⟨Xz,Gc,Gd,TC,n196⟩
theorem XA:R.Fn 294 Rb:=⟨by kernel_rfl⟩
theorem n294:Lx R:=⟨XA,n37,n298,n309,n310,n311⟩
theorem XB:R.Fn 345 Rf:=⟨by kernel_rfl⟩
theorem n345:Ly R:=⟨XB⟩
theorem XC:R.Fn 355 Rg:=⟨by kernel_rfl⟩
theorem ml:yM R:=⟨XC⟩
theorem XD:R.Fn 361 PG:=⟨by kernel_rfl⟩
theorem Hx:Hb R:=⟨XD⟩
theorem XE:R.Fn 362 PI:=⟨by kernel_rfl⟩
theorem Hy:Hc R:=⟨XE⟩
theorem XF:R.Fn 356 Rh:=⟨by kernel_rfl⟩
theorem sI:Hv R:=⟨XF,n101,Hx,Hy⟩
theorem XG:R.Fn 346 Rk:=⟨by kernel_rfl⟩
theorem n346:Lz R:=⟨XG,n294,ml,sI⟩
theorem XH:R.Fn 357 Rl:=⟨by kernel_rfl⟩
theorem LC:LA R:=⟨XH⟩
theorem XI:R.Fn 358 Ro:=⟨by kernel_rfl⟩
theorem pM:Hz R:=⟨XI⟩
theorem XJ:R.Fn 347 Rp:=⟨by kernel_rfl⟩
theorem L8:LB R:=⟨XJ,n241,ml,LC,pM⟩
theorem XK:R.Fn 447 PK:=⟨by kernel_rfl⟩
theorem PN:PL R:=⟨XK⟩
theorem XL:R.Fn 433 PM:=⟨by kernel_rfl⟩
theorem LF:KI R:=⟨XL,PN⟩
theorem XM:R.As 434:=⟨by kernel_rfl⟩
theorem LG:PO R:=⟨XM⟩
theorem XN:R.Fn 418 Rq:=⟨by kernel_rfl⟩
theorem LS:LD R:=⟨XN,ml,sI,LF,LG⟩
theorem XO:R.As 435:=⟨by kernel_rfl⟩
theorem HC:PP R:=⟨XO⟩
theorem XP:R.Fn 468 PR:=⟨by kernel_rfl⟩
theorem BU:KJ R:=⟨XP⟩
theorem XQ:R.Fn 451 PU:=⟨by kernel_rfl⟩
theorem sJ:KM R:=⟨XQ,BU⟩
theorem XR:R.Fn 452 PV:=⟨by kernel_rfl⟩
theorem HA:KN R:=⟨XR⟩
theorem XS:R.Fn 450 Rr:=⟨by kernel_rfl⟩
theorem HB:LH R:=⟨XS,sJ,HA⟩
theorem XT:R.Fn 436 Rt:=⟨by kernel_rfl⟩
theorem LL:LI R:=⟨XT,pM,HB⟩
theorem XU:R.Fn 419 Ru:=⟨by kernel_rfl⟩
theorem LU:LJ R:=⟨XU,ml,HC,LL⟩
theorem XV:R.As 439:=⟨by kernel_rfl⟩
theorem LN:PX R:=⟨XV⟩
theorem XW:R.As 440:=⟨by kernel_rfl⟩
theorem LO:PY R:=⟨XW⟩
theorem XX:R.Fn 430 Rv:=⟨by kernel_rfl⟩
theorem LV:LM R:=⟨XX,ml,LN,LO⟩
theorem XY:R.Fn 505 Rz:=⟨by kernel_rfl⟩
theorem LW:LP R:=⟨XY,n4,n12,n14⟩
theorem XZ:R.Fn 506 RA:=⟨by kernel_rfl⟩
theorem LX:LQ R:=⟨XZ,n11,n241⟩
theorem X0:R.Fn 491 RB:=⟨by kernel_rfl⟩
theorem L9:LR R:=⟨X0,LS,LU,LV,LW,LX⟩
theorem X1:R.Fn 507 RG:=⟨by kernel_rfl⟩
theorem HE:L4 R:=⟨X1⟩
theorem X2:R.Fn 492 RI:=⟨by kernel_rfl⟩
theorem HG:L5 R:=⟨X2,TK,HE⟩
theorem X3:R.Fn 493 RO:=⟨by kernel_rfl⟩
theorem HH:L7 R:=⟨X3,n221,n345,n346,L8,L9⟩
theorem X4:R.Fn 498 RQ:=⟨by kernel_rfl⟩
theorem BW:Ma R:=⟨X4⟩
theorem X5:R.Fn 508 RC:=⟨by kernel_rfl⟩
theorem gH:EA R:=⟨X5,Gd⟩
theorem X6:R.Fn 509 RE:=⟨by kernel_rfl⟩
theorem HD:LY R:=⟨X6,gH⟩
theorem X7:R.Fn 499 RF:=⟨by kernel_rfl⟩
theorem BX:LZ R:=⟨X7,gH,HD⟩
theorem X8:R.Fn 510 RK:=⟨by kernel_rfl⟩
theorem iO:HF R:=⟨X8,TL⟩
theorem X9:R.Fn 500 RM:=⟨by kernel_rfl⟩
theorem HI:L6 R:=⟨X9,iO⟩
theorem X':R.Fn 497 RR:=⟨by kernel_rfl⟩
theorem Ya:Md R:=⟨X',n47,HG,HH,BW,BX,HI⟩
end Go.Proofs.YtnfgjmbcfcnieaaGreat
