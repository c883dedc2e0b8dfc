/- The program, as the machine has it. -/
import Derived.Test.YtnfgjmbcfcnieaaGreatU0
import Derived.Test.YtnfgjmbcfcnieaaGreatProg
namespace Go.Proofs.YtnfgjmbcfcnieaaGreat
open Go.AM Go.UM
noncomputable def tt:TT:=Rq
 [.aP,
  .func,
  .int .i64,
  .int .i64,
  .bool,
  .int .u8,
  .int .u8,
  .struct [(0,2),(1,3),(2,4),(3,6)],
  .struct [(0,2),(1,3),(2,4),(3,6)],
  .str,
  .str,
  .str,
  .int .u64,
  .struct [(0,9),(1,12)],
  .struct [(0,9),(1,12)],
  .ptr 287,
  .ptr 290,
  .ptr 299,
  .struct [(0,17)],
  .struct [(0,17)],
  .iface,
  .int .i32,
  .slice 53,
  .int .u64,
  .int .u32,
  .arr 8 5,
  .struct [(0,23),(1,3),(2,24),(3,25),(11,24),(12,24),(13,3),(14,3)],
  .struct [(0,23),(1,3),(2,24),(3,25),(11,24),(12,24),(13,3),(14,3)],
  .slice 39,
  .slice 74,
  .slice 35,
  .struct [(0,28),(1,29),(2,30)],
  .struct [(0,28),(1,29),(2,30)],
  .struct [(0,3),(1,30)],
  .struct [(0,3),(1,30)],
  .arr 3 3,
  .struct [(0,3),(1,35),(4,3)],
  .struct [(0,3),(1,35),(4,3)],
  .struct [(0,3),(1,3),(2,3)],
  .struct [(0,3),(1,3),(2,3)],
  .struct [(0,3),(1,35),(4,39),(7,39),(10,39)],
  .struct [(0,3),(1,35),(4,39),(7,39),(10,39)],
  .struct [(0,3),(1,32),(4,34),(6,37),(11,41)],
  .struct [(0,3),(1,32),(4,34),(6,37),(11,41)],
  .int .i64,
  .arr 9 44,
  .struct [(0,44),(1,44),(2,44)],
  .struct [(0,44),(1,44),(2,44)],
  .struct [(0,45),(9,47)],
  .struct [(0,45),(9,47)],
  .struct [(0,3),(1,3),(2,3),(3,3),(4,49)],
  .struct [(0,3),(1,3),(2,3),(3,3),(4,49)],
  .struct [(0,3),(1,3),(2,27),(17,43),(41,51)],
  .struct [(0,3),(1,3),(2,27),(17,43),(41,51)],
  .func,
  .ptr 90,
  .ptr 97,
  .aP,
  .func,
  .slice 77,
  .slice 37,
  .slice 34,
  .slice 41,
  .slice 23,
  .slice 24,
  .struct [(0,59),(1,60),(2,61),(3,62),(4,63),(5,64),(6,24),(7,24),(8,24)],
  .struct [(0,59),(1,60),(2,61),(3,62),(4,63),(5,64),(6,24),(7,24),(8,24)],
  .int .i64,
  .aP,
  .func,
  .func,
  .func,
  .func,
  .arr 3 39,
  .arr 2 3,
  .arr 3 74,
  .struct [(0,73),(9,75),(15,3),(16,3),(17,3),(18,5)],
  .struct [(0,73),(9,75),(15,3),(16,3),(17,3),(18,5)],
  .aP,
  .func,
  .func,
  .func,
  .slice 5,
  .func,
  .func,
  .aP,
  .func,
  .map 3 123,
  .map 137 49,
  .struct [(0,87),(1,88)],
  .struct [(0,87),(1,88)],
  .func,
  .func,
  .func,
  .slice 123,
  .slice 51,
  .struct [(0,94),(1,95)],
  .struct [(0,94),(1,95)],
  .func,
  .func,
  .func,
  .ptr 104,
  .map 3 3,
  .struct [(0,66),(9,87),(10,102),(11,102)],
  .struct [(0,66),(9,87),(10,102),(11,102)],
  .func,
  .func,
  .func,
  .func,
  .func,
  .func,
  .func,
  .func,
  .func,
  .ptr 116,
  .struct [(0,82)],
  .struct [(0,82)],
  .func,
  .func,
  .slice 3,
  .func,
  .func,
  .struct [(0,3),(1,27),(16,43)],
  .struct [(0,3),(1,27),(16,43)],
  .func,
  .func,
  .func,
  .aP,
  .func,
  .func,
  .func,
  .func,
  .func,
  .func,
  .func,
  .func,
  .struct [(0,3),(1,3),(2,3),(3,3)],
  .struct [(0,3),(1,3),(2,3),(3,3)],
  .func,
  .func,
  .aP,
  .func,
  .func,
  .func,
  .func,
  .func,
  .func,
  .func,
  .func,
  .func,
  .func,
  .aP,
  .aP,
  .aP,
  .func,
  .func,
  .aP,
  .aP,
  .func,
  .aP,
  .func,
  .func,
  .func,
  .func,
  .func,
  .func,
  .func,
  .func,
  .func,
  .func,
  .func,
  .slice 27,
  .arr 2 24,
  .func,
  .func,
  .func,
  .func,
  .func,
  .func,
  .func,
  .func,
  .func,
  .int .u64,
  .func,
  .func,
  .func,
  .func,
  .func,
  .func,
  .func,
  .func,
  .func,
  .func,
  .func,
  .func,
  .func,
  .func,
  .func,
  .func,
  .func,
  .func,
  .func,
  .func,
  .func,
  .func,
  .int .i64,
  .aP,
  .func,
  .func,
  .func,
  .func,
  .func,
  .func,
  .func,
  .func,
  .func,
  .func,
  .func,
  .func,
  .func,
  .func,
  .func,
  .func,
  .func,
  .arr 5 3,
  .func,
  .func,
  .slice 44,
  .func,
  .func,
  .func,
  .func,
  .func,
  .func,
  .func,
  .func,
  .func,
  .func,
  .func,
  .func,
  .func,
  .int .u64,
  .func,
  .func,
  .func,
  .ptr 3,
  .func,
  .slice 47,
  .func,
  .func,
  .func,
  .func,
  .struct [(0,2),(1,23)],
  .struct [(0,2),(1,23)],
  .func,
  .func,
  .func,
  .func,
  .func,
  .func,
  .func,
  .func,
  .func,
  .func,
  .func,
  .ptr 241,
  .func,
  .aP,
  .func,
  .aP,
  .func,
  .aP,
  .func,
  .aP,
  .func,
  .func,
  .func,
  .func,
  .func,
  .func,
  .func,
  .func,
  .func,
  .func,
  .func,
  .func,
  .struct [(0,17),(1,17),(2,17),(3,9)],
  .struct [(0,17),(1,17),(2,17),(3,9)],
  .arr 0 16,
  .struct [(0,288)],
  .struct [(0,288)],
  .func,
  .int .u8,
  .int .u8,
  .func,
  .ptr 5,
  .int .i32,
  .int .i32,
  .struct [(0,12),(1,12),(2,24),(3,292),(4,5),(5,5),(6,293),(7,294),(8,295),(9,296),(10,297)],
  .struct [(0,12),(1,12),(2,24),(3,292),(4,5),(5,5),(6,293),(7,294),(8,295),(9,296),(10,297)],
  .other]
 [1,1,1,1,1,1,1,4,4,1,1,1,1,2,2,1,1,1,1,1,1,1,1,1,1,8,15,15,1,1,1,3,3,2,2,3,5,5,3,3,13,13,24,24,1,9,3,3,12,12,16,16,57,57,1,1,1,1,1,1,1,1,1,1,1,9,9,1,1,1,1,1,1,9,2,6,19,19,1,1,1,1,1,1,1,1,1,1,1,2,2,1,1,1,1,1,2,2,1,1,1,1,1,12,12,1,1,1,1,1,1,1,1,1,1,1,1,1,1,1,1,1,40,40,1,1,1,1,1,1,1,1,1,1,1,1,4,4,1,1,1,1,1,1,1,1,1,1,1,1,1,1,1,1,1,1,1,1,1,1,1,1,1,1,1,1,1,1,1,1,1,1,2,1,1,1,1,1,1,1,1,1,1,1,1,1,1,1,1,1,1,1,1,1,1,1,1,1,1,1,1,1,1,1,1,1,1,1,1,1,1,1,1,1,1,1,1,1,1,1,1,1,1,1,5,1,1,1,1,1,1,1,1,1,1,1,1,1,1,1,1,1,1,1,1,1,1,1,1,1,1,1,2,2,1,1,1,1,1,1,1,1,1,1,1,1,1,1,1,1,1,1,1,1,1,1,1,1,1,1,1,1,1,1,1,1,4,4,0,0,0,1,1,1,1,1,1,1,11,11,1]
 [.aP [],
  .aw,
  .int .i64 0,
  .int .i64 0,
  .bool false,
  .int .u8 0,
  .int .u8 0,
  .agg [.int .i64 0,.int .i64 0,.bool false,.int .u8 0],
  .agg [.int .i64 0,.int .i64 0,.bool false,.int .u8 0],
  .str [],
  .str [],
  .str [],
  .int .u64 0,
  .agg [.str [],.int .u64 0],
  .agg [.str [],.int .u64 0],
  .bP,
  .bP,
  .bP,
  .agg [.bP],
  .agg [.bP],
  .dS,
  .int .i32 0,
  .ao,
  .int .u64 0,
  .int .u32 0,
  .agg [.int .u8 0,.int .u8 0,.int .u8 0,.int .u8 0,.int .u8 0,.int .u8 0,.int .u8 0,.int .u8 0],
  .agg [.int .u64 0,.int .i64 0,.int .u32 0,.int .u8 0,.int .u8 0,.int .u8 0,.int .u8 0,.int .u8 0,.int .u8 0,.int .u8 0,.int .u8 0,.int .u32 0,.int .u32 0,.int .i64 0,.int .i64 0],
  .agg [.int .u64 0,.int .i64 0,.int .u32 0,.int .u8 0,.int .u8 0,.int .u8 0,.int .u8 0,.int .u8 0,.int .u8 0,.int .u8 0,.int .u8 0,.int .u32 0,.int .u32 0,.int .i64 0,.int .i64 0],
  .ao,
  .ao,
  .ao,
  .agg [.ao,.ao,.ao],
  .agg [.ao,.ao,.ao],
  .agg [.int .i64 0,.ao],
  .agg [.int .i64 0,.ao],
  .agg [.int .i64 0,.int .i64 0,.int .i64 0],
  .agg [.int .i64 0,.int .i64 0,.int .i64 0,.int .i64 0,.int .i64 0],
  .agg [.int .i64 0,.int .i64 0,.int .i64 0,.int .i64 0,.int .i64 0],
  .agg [.int .i64 0,.int .i64 0,.int .i64 0],
  .agg [.int .i64 0,.int .i64 0,.int .i64 0],
  .agg [.int .i64 0,.int .i64 0,.int .i64 0,.int .i64 0,.int .i64 0,.int .i64 0,.int .i64 0,.int .i64 0,.int .i64 0,.int .i64 0,.int .i64 0,.int .i64 0,.int .i64 0],
  .agg [.int .i64 0,.int .i64 0,.int .i64 0,.int .i64 0,.int .i64 0,.int .i64 0,.int .i64 0,.int .i64 0,.int .i64 0,.int .i64 0,.int .i64 0,.int .i64 0,.int .i64 0],
  .agg [.int .i64 0,.ao,.ao,.ao,.int .i64 0,.ao,.int .i64 0,.int .i64 0,.int .i64 0,.int .i64 0,.int .i64 0,.int .i64 0,.int .i64 0,.int .i64 0,.int .i64 0,.int .i64 0,.int .i64 0,.int .i64 0,.int .i64 0,.int .i64 0,.int .i64 0,.int .i64 0,.int .i64 0,.int .i64 0],
  .agg [.int .i64 0,.ao,.ao,.ao,.int .i64 0,.ao,.int .i64 0,.int .i64 0,.int .i64 0,.int .i64 0,.int .i64 0,.int .i64 0,.int .i64 0,.int .i64 0,.int .i64 0,.int .i64 0,.int .i64 0,.int .i64 0,.int .i64 0,.int .i64 0,.int .i64 0,.int .i64 0,.int .i64 0,.int .i64 0],
  .int .i64 0,
  .agg [.int .i64 0,.int .i64 0,.int .i64 0,.int .i64 0,.int .i64 0,.int .i64 0,.int .i64 0,.int .i64 0,.int .i64 0],
  .agg [.int .i64 0,.int .i64 0,.int .i64 0],
  .agg [.int .i64 0,.int .i64 0,.int .i64 0],
  .agg [.int .i64 0,.int .i64 0,.int .i64 0,.int .i64 0,.int .i64 0,.int .i64 0,.int .i64 0,.int .i64 0,.int .i64 0,.int .i64 0,.int .i64 0,.int .i64 0],
  .agg [.int .i64 0,.int .i64 0,.int .i64 0,.int .i64 0,.int .i64 0,.int .i64 0,.int .i64 0,.int .i64 0,.int .i64 0,.int .i64 0,.int .i64 0,.int .i64 0],
  .agg [.int .i64 0,.int .i64 0,.int .i64 0,.int .i64 0,.int .i64 0,.int .i64 0,.int .i64 0,.int .i64 0,.int .i64 0,.int .i64 0,.int .i64 0,.int .i64 0,.int .i64 0,.int .i64 0,.int .i64 0,.int .i64 0],
  .agg [.int .i64 0,.int .i64 0,.int .i64 0,.int .i64 0,.int .i64 0,.int .i64 0,.int .i64 0,.int .i64 0,.int .i64 0,.int .i64 0,.int .i64 0,.int .i64 0,.int .i64 0,.int .i64 0,.int .i64 0,.int .i64 0],
  .agg [.int .i64 0,.int .i64 0,.int .u64 0,.int .i64 0,.int .u32 0,.int .u8 0,.int .u8 0,.int .u8 0,.int .u8 0,.int .u8 0,.int .u8 0,.int .u8 0,.int .u8 0,.int .u32 0,.int .u32 0,.int .i64 0,.int .i64 0,.int .i64 0,.ao,.ao,.ao,.int .i64 0,.ao,.int .i64 0,.int .i64 0,.int .i64 0,.int .i64 0,.int .i64 0,.int .i64 0,.int .i64 0,.int .i64 0,.int .i64 0,.int .i64 0,.int .i64 0,.int .i64 0,.int .i64 0,.int .i64 0,.int .i64 0,.int .i64 0,.int .i64 0,.int .i64 0,.int .i64 0,.int .i64 0,.int .i64 0,.int .i64 0,.int .i64 0,.int .i64 0,.int .i64 0,.int .i64 0,.int .i64 0,.int .i64 0,.int .i64 0,.int .i64 0,.int .i64 0,.int .i64 0,.int .i64 0,.int .i64 0],
  .agg [.int .i64 0,.int .i64 0,.int .u64 0,.int .i64 0,.int .u32 0,.int .u8 0,.int .u8 0,.int .u8 0,.int .u8 0,.int .u8 0,.int .u8 0,.int .u8 0,.int .u8 0,.int .u32 0,.int .u32 0,.int .i64 0,.int .i64 0,.int .i64 0,.ao,.ao,.ao,.int .i64 0,.ao,.int .i64 0,.int .i64 0,.int .i64 0,.int .i64 0,.int .i64 0,.int .i64 0,.int .i64 0,.int .i64 0,.int .i64 0,.int .i64 0,.int .i64 0,.int .i64 0,.int .i64 0,.int .i64 0,.int .i64 0,.int .i64 0,.int .i64 0,.int .i64 0,.int .i64 0,.int .i64 0,.int .i64 0,.int .i64 0,.int .i64 0,.int .i64 0,.int .i64 0,.int .i64 0,.int .i64 0,.int .i64 0,.int .i64 0,.int .i64 0,.int .i64 0,.int .i64 0,.int .i64 0,.int .i64 0],
  .aw,
  .bP,
  .bP,
  .aP [.bP,.bP],
  .aw,
  .ao,
  .ao,
  .ao,
  .ao,
  .ao,
  .ao,
  .agg [.ao,.ao,.ao,.ao,.ao,.ao,.int .u32 0,.int .u32 0,.int .u32 0],
  .agg [.ao,.ao,.ao,.ao,.ao,.ao,.int .u32 0,.int .u32 0,.int .u32 0],
  .int .i64 0,
  .aP [.bad,.int .i64 0],
  .aw,
  .aw,
  .aw,
  .aw,
  .agg [.int .i64 0,.int .i64 0,.int .i64 0,.int .i64 0,.int .i64 0,.int .i64 0,.int .i64 0,.int .i64 0,.int .i64 0],
  .agg [.int .i64 0,.int .i64 0],
  .agg [.int .i64 0,.int .i64 0,.int .i64 0,.int .i64 0,.int .i64 0,.int .i64 0],
  .agg [.int .i64 0,.int .i64 0,.int .i64 0,.int .i64 0,.int .i64 0,.int .i64 0,.int .i64 0,.int .i64 0,.int .i64 0,.int .i64 0,.int .i64 0,.int .i64 0,.int .i64 0,.int .i64 0,.int .i64 0,.int .i64 0,.int .i64 0,.int .i64 0,.int .u8 0],
  .agg [.int .i64 0,.int .i64 0,.int .i64 0,.int .i64 0,.int .i64 0,.int .i64 0,.int .i64 0,.int .i64 0,.int .i64 0,.int .i64 0,.int .i64 0,.int .i64 0,.int .i64 0,.int .i64 0,.int .i64 0,.int .i64 0,.int .i64 0,.int .i64 0,.int .u8 0],
  .aP [.int .i64 0,.int .i64 0],
  .aw,
  .aw,
  .aw,
  .ao,
  .aw,
  .aw,
  .aP [.bad,.int .i64 0],
  .aw,
  .cb,
  .cb,
  .agg [.cb,.cb],
  .agg [.cb,.cb],
  .aw,
  .aw,
  .aw,
  .ao,
  .ao,
  .agg [.ao,.ao],
  .agg [.ao,.ao],
  .aw,
  .aw,
  .aw,
  .bP,
  .cb,
  .agg [.ao,.ao,.ao,.ao,.ao,.ao,.int .u32 0,.int .u32 0,.int .u32 0,.cb,.cb,.cb],
  .agg [.ao,.ao,.ao,.ao,.ao,.ao,.int .u32 0,.int .u32 0,.int .u32 0,.cb,.cb,.cb],
  .aw,
  .aw,
  .aw,
  .aw,
  .aw,
  .aw,
  .aw,
  .aw,
  .aw,
  .bP,
  .agg [.ao],
  .agg [.ao],
  .aw,
  .aw,
  .ao,
  .aw,
  .aw,
  .agg [.int .i64 0,.int .u64 0,.int .i64 0,.int .u32 0,.int .u8 0,.int .u8 0,.int .u8 0,.int .u8 0,.int .u8 0,.int .u8 0,.int .u8 0,.int .u8 0,.int .u32 0,.int .u32 0,.int .i64 0,.int .i64 0,.int .i64 0,.ao,.ao,.ao,.int .i64 0,.ao,.int .i64 0,.int .i64 0,.int .i64 0,.int .i64 0,.int .i64 0,.int .i64 0,.int .i64 0,.int .i64 0,.int .i64 0,.int .i64 0,.int .i64 0,.int .i64 0,.int .i64 0,.int .i64 0,.int .i64 0,.int .i64 0,.int .i64 0,.int .i64 0],
  .agg [.int .i64 0,.int .u64 0,.int .i64 0,.int .u32 0,.int .u8 0,.int .u8 0,.int .u8 0,.int .u8 0,.int .u8 0,.int .u8 0,.int .u8 0,.int .u8 0,.int .u32 0,.int .u32 0,.int .i64 0,.int .i64 0,.int .i64 0,.ao,.ao,.ao,.int .i64 0,.ao,.int .i64 0,.int .i64 0,.int .i64 0,.int .i64 0,.int .i64 0,.int .i64 0,.int .i64 0,.int .i64 0,.int .i64 0,.int .i64 0,.int .i64 0,.int .i64 0,.int .i64 0,.int .i64 0,.int .i64 0,.int .i64 0,.int .i64 0,.int .i64 0],
  .aw,
  .aw,
  .aw,
  .aP [.bad,.int .i64 0],
  .aw,
  .aw,
  .aw,
  .aw,
  .aw,
  .aw,
  .aw,
  .aw,
  .agg [.int .i64 0,.int .i64 0,.int .i64 0,.int .i64 0],
  .agg [.int .i64 0,.int .i64 0,.int .i64 0,.int .i64 0],
  .aw,
  .aw,
  .aP [.int .u32 0,.int .u32 0],
  .aw,
  .aw,
  .aw,
  .aw,
  .aw,
  .aw,
  .aw,
  .aw,
  .aw,
  .aw,
  .aP [.bad,.bool false],
  .aP [.int .i64 0,.bool false],
  .aP [.bad,.int .i64 0],
  .aw,
  .aw,
  .aP [.bad,.bool false],
  .aP [.ao,.int .i64 0],
  .aw,
  .aP [.ao,.int .i64 0],
  .aw,
  .aw,
  .aw,
  .aw,
  .aw,
  .aw,
  .aw,
  .aw,
  .aw,
  .aw,
  .aw,
  .ao,
  .agg [.int .u32 0,.int .u32 0],
  .aw,
  .aw,
  .aw,
  .aw,
  .aw,
  .aw,
  .aw,
  .aw,
  .aw,
  .int .u64 0,
  .aw,
  .aw,
  .aw,
  .aw,
  .aw,
  .aw,
  .aw,
  .aw,
  .aw,
  .aw,
  .aw,
  .aw,
  .aw,
  .aw,
  .aw,
  .aw,
  .aw,
  .aw,
  .aw,
  .aw,
  .aw,
  .aw,
  .int .i64 0,
  .aP [.int .i64 0,.int .i64 0],
  .aw,
  .aw,
  .aw,
  .aw,
  .aw,
  .aw,
  .aw,
  .aw,
  .aw,
  .aw,
  .aw,
  .aw,
  .aw,
  .aw,
  .aw,
  .aw,
  .aw,
  .agg [.int .i64 0,.int .i64 0,.int .i64 0,.int .i64 0,.int .i64 0],
  .aw,
  .aw,
  .ao,
  .aw,
  .aw,
  .aw,
  .aw,
  .aw,
  .aw,
  .aw,
  .aw,
  .aw,
  .aw,
  .aw,
  .aw,
  .aw,
  .int .u64 0,
  .aw,
  .aw,
  .aw,
  .bP,
  .aw,
  .ao,
  .aw,
  .aw,
  .aw,
  .aw,
  .agg [.int .i64 0,.int .u64 0],
  .agg [.int .i64 0,.int .u64 0],
  .aw,
  .aw,
  .aw,
  .aw,
  .aw,
  .aw,
  .aw,
  .aw,
  .aw,
  .aw,
  .aw,
  .bP,
  .aw,
  .aP [.int .i64 0,.bool false],
  .aw,
  .aP [.int .u64 0,.bool false],
  .aw,
  .aP [.int .u64 0,.int .u64 0],
  .aw,
  .aP [.bad,.bool false],
  .aw,
  .aw,
  .aw,
  .aw,
  .aw,
  .aw,
  .aw,
  .aw,
  .aw,
  .aw,
  .aw,
  .aw,
  .agg [.bP,.bP,.bP,.str []],
  .agg [.bP,.bP,.bP,.str []],
  .agg [],
  .agg [],
  .agg [],
  .aw,
  .int .u8 0,
  .int .u8 0,
  .aw,
  .bP,
  .int .i32 0,
  .int .i32 0,
  .agg [.int .u64 0,.int .u64 0,.int .u32 0,.int .u8 0,.int .u8 0,.int .u8 0,.int .u8 0,.aw,.bP,.int .i32 0,.int .i32 0],
  .agg [.int .u64 0,.int .u64 0,.int .u32 0,.int .u8 0,.int .u8 0,.int .u8 0,.int .u8 0,.aw,.bP,.int .i32 0,.int .i32 0],
  .bP]
theorem hT:PT Tryz.prog tt:=⟨ML 301 (by kernel_rfl) (by kernel_rfl) (by kernel_rfl),by kernel_rfl⟩
def ftl:List (Nat × Nat):=[(4,54),(11,63),(12,53),(14,55),(16,80),(17,81),(18,82),(19,83),(37,102),(38,118),(47,16),(54,103),(55,105),(62,147),(63,104),(71,67),(72,68),(82,146),(83,156),(84,139),(85,113),(89,31),(100,186),(101,89),(106,204),(191,43),(193,138),(196,145),(197,155),(198,111),(206,180),(207,181),(208,182),(209,183),(210,184),(211,185),(212,157),(213,154),(217,201),(218,202),(219,203),(221,34),(231,136),(232,109),(233,96),(234,71),(235,94),(236,69),(241,64),(242,42),(243,95),(244,70),(246,135),(248,137),(249,97),(251,177),(252,176),(253,151),(254,108),(255,132),(256,133),(257,106),(259,72),(260,134),(261,107),(262,173),(263,174),(264,179),(265,178),(266,196),(267,175),(268,190),(269,150),(270,172),(271,148),(272,110),(273,149),(274,197),(275,198),(276,199),(277,200),(278,208),(279,152),(280,153),(281,195),(282,189),(283,210),(284,209),(285,212),(286,213),(287,214),(290,140),(291,115),(292,141),(293,116),(294,65),(295,76),(298,99),(307,187),(308,188),(309,98),(310,100),(311,101),(312,112),(313,114),(314,117),(315,142),(316,143),(317,144),(322,206),(323,205),(324,211),(345,21),(346,32),(347,33),(355,50),(356,58),(357,66),(358,62),(361,87),(362,88),(404,130),(418,27),(419,28),(420,22),(421,23),(427,45),(428,44),(430,25),(432,24),(433,57),(434,56),(435,59),(436,60),(437,74),(438,73),(439,51),(440,52),(441,46),(442,47),(443,48),(444,49),(445,84),(446,85),(447,86),(448,91),(449,90),(450,61),(451,93),(452,92),(454,75),(455,77),(456,78),(457,119),(458,120),(459,121),(460,122),(461,123),(462,124),(463,125),(464,126),(465,127),(466,128),(467,129),(468,131),(469,158),(470,159),(471,160),(472,161),(473,162),(474,163),(475,164),(476,165),(477,166),(478,167),(479,168),(480,169),(481,170),(482,171),(483,191),(484,192),(485,193),(486,194),(487,207),(488,3),(489,7),(490,8),(491,9),(492,10),(493,11),(494,4),(495,12),(496,13),(497,5),(498,14),(499,15),(500,17),(501,6),(502,18),(503,19),(504,20),(505,26),(506,29),(507,30),(508,35),(509,36),(510,37),(511,38),(512,39),(513,40),(514,41)]
def tyl:List (Nat × Nat):=[(0,24),(1,25),(2,27),(3,172),(4,5),(5,224),(6,23),(10,3),(12,34),(13,35),(14,61),(18,74),(22,119),(23,9),(25,32),(26,39),(28,73),(29,75),(31,47),(32,44),(33,49),(37,45),(38,253),(39,43),(40,37),(41,41),(44,51),(45,123),(46,4),(47,90),(48,94),(49,137),(51,82),(55,53),(56,97),(57,87),(58,241),(59,66),(60,77),(61,104),(62,116)]
noncomputable def R:Env:= {P:=Tryz.prog,T:=tt,ok:=hT,ft:=Zp ftl,ty:=Zp tyl}
theorem h16:R.Fn 16 c16:=⟨by kernel_rfl⟩
theorem n16:ZS R:=⟨h16⟩
theorem h17:R.Fn 17 c17:=⟨by kernel_rfl⟩
theorem n17:XP R:=⟨h17⟩
theorem h4:R.Fn 4 c4:=⟨by kernel_rfl⟩
theorem n4:N4 R:=⟨h4,n16,n17⟩
theorem Jd:R.Fn 11 c11:=⟨by kernel_rfl⟩
theorem n11:XQ R:=⟨Jd⟩
theorem Iy:R.Fn 12 c12:=⟨by kernel_rfl⟩
theorem n12:ZU R:=⟨Iy,n11⟩
theorem h18:R.Fn 18 c18:=⟨by kernel_rfl⟩
theorem n18:ZV R:=⟨h18⟩
theorem h19:R.Fn 19 c19:=⟨by kernel_rfl⟩
theorem n19:XR R:=⟨h19⟩
theorem YV:R.Fn 14 c14:=⟨by kernel_rfl⟩
theorem n14:ZW R:=⟨YV,n18,n19⟩
theorem h37:R.Fn 37 c37:=⟨by kernel_rfl⟩
theorem n37:ZN R:=⟨h37⟩
theorem h38:R.Fn 38 c38:=⟨by kernel_rfl⟩
theorem n38:N38 R:=⟨h38⟩
theorem h62:R.Fn 62 c62:=⟨by kernel_rfl⟩
theorem n62:ZD R:=⟨h62⟩
theorem h54:R.Fn 54 c54:=⟨by kernel_rfl⟩
theorem ID:Og R:=⟨h54,n62⟩
theorem h63:R.Fn 63 c63:=⟨by kernel_rfl⟩
theorem IE:XS R:=⟨h63⟩
theorem h55:R.Fn 55 c55:=⟨by kernel_rfl⟩
theorem LZ:Vh R:=⟨h55,IE⟩
theorem h71:R.Fn 71 c71:=⟨by kernel_rfl⟩
theorem QU:TX R:=⟨h71,ID⟩
theorem h72:R.Fn 72 c72:=⟨by kernel_rfl⟩
theorem n72:N72 R:=⟨h72,LZ,IE⟩
theorem aaV:R.Fn 106 Sr:=⟨by kernel_rfl⟩
theorem n106:Nv R:=⟨aaV⟩
theorem aaW:R.Fn 100 Su:=⟨by kernel_rfl⟩
theorem n100:Nw R:=⟨aaW,n106⟩
theorem h84:R.Fn 84 c84:=⟨by kernel_rfl⟩
theorem LY:XN R:=⟨h84,n100⟩
theorem h82:R.Fn 82 c82:=⟨by kernel_rfl⟩
theorem XO:ZQ R:=⟨h82,LY⟩
theorem h85:R.Fn 85 c85:=⟨by kernel_rfl⟩
theorem L3:XU R:=⟨h85⟩
theorem h83:R.Fn 83 c83:=⟨by kernel_rfl⟩
theorem XV:N83 R:=⟨h83,L3⟩
theorem aaX:R.Fn 101 Sw:=⟨by kernel_rfl⟩
theorem n101:JC R:=⟨aaX⟩
theorem aaY:R.Fn 191 UP:=⟨by kernel_rfl⟩
theorem n191:O2 R:=⟨aaY⟩
theorem aaZ:R.Fn 206 TY:=⟨by kernel_rfl⟩
theorem n206:Oh R:=⟨aaZ⟩
theorem aa0:R.Fn 207 T0:=⟨by kernel_rfl⟩
theorem n207:Oi R:=⟨aa0⟩
theorem aa1:R.Fn 208 T2:=⟨by kernel_rfl⟩
theorem n208:Oj R:=⟨aa1⟩
theorem aa2:R.Fn 217 Sx:=⟨by kernel_rfl⟩
theorem n217:Ny R:=⟨aa2⟩
theorem aa3:R.Fn 209 Sz:=⟨by kernel_rfl⟩
theorem n209:Nz R:=⟨aa3,n217⟩
theorem aa4:R.Fn 218 SB:=⟨by kernel_rfl⟩
theorem n218:NA R:=⟨aa4⟩
theorem aa5:R.Fn 210 SD:=⟨by kernel_rfl⟩
theorem n210:NB R:=⟨aa5,n218⟩
theorem aa6:R.Fn 219 SF:=⟨by kernel_rfl⟩
theorem n219:NC R:=⟨aa6⟩
theorem aa7:R.Fn 211 SG:=⟨by kernel_rfl⟩
theorem n211:ND R:=⟨aa7,n219⟩
theorem aa8:R.Fn 193 T4:=⟨by kernel_rfl⟩
theorem n193:JV R:=⟨aa8,n206,n207,n208,n209,n210,n211⟩
theorem aa9:R.Fn 196 T5:=⟨by kernel_rfl⟩
theorem n196:Om R:=⟨aa9,ID,QU,n193⟩
theorem aa':R.Fn 213 Vj:=⟨by kernel_rfl⟩
theorem n213:Kh R:=⟨aa'⟩
theorem aba:R.Fn 198 Vk:=⟨by kernel_rfl⟩
theorem n198:Ki R:=⟨aba,n213⟩
theorem abb:R.Fn 212 Vl:=⟨by kernel_rfl⟩
theorem n212:Kj R:=⟨abb,n72⟩
theorem abc:R.Fn 197 Vm:=⟨by kernel_rfl⟩
theorem n197:Pk R:=⟨abc,n198,n212⟩
theorem abd:R.Fn 221 TK:=⟨by kernel_rfl⟩
theorem n221:Oa R:=⟨abd⟩
theorem abe:R.Fn 251 TM:=⟨by kernel_rfl⟩
theorem n251:Ob R:=⟨abe⟩
theorem abf:R.Fn 262 Tx:=⟨by kernel_rfl⟩
theorem n262:GO R:=⟨abf⟩
theorem abg:R.Fn 275 Ta:=⟨by kernel_rfl⟩
theorem n275:NO R:=⟨abg⟩
theorem abh:R.Fn 276 SH:=⟨by kernel_rfl⟩
theorem n276:JD R:=⟨abh⟩
theorem abi:R.Xn 286 "math/bits.Sub64" :=⟨by kernel_rfl⟩
theorem n286:SI R:=⟨abi⟩
theorem abj:R.Fn 283 Tc:=⟨by kernel_rfl⟩
theorem n283:NQ R:=⟨abj,n286⟩
theorem abk:R.Fn 277 Te:=⟨by kernel_rfl⟩
theorem n277:NR R:=⟨abk,n283⟩
theorem abl:R.Fn 264 Tg:=⟨by kernel_rfl⟩
theorem n264:JG R:=⟨abl,n275,n276,n277⟩
theorem abm:R.Fn 274 Th:=⟨by kernel_rfl⟩
theorem n274:JH R:=⟨abm⟩
theorem abn:R.Fn 265 Tm:=⟨by kernel_rfl⟩
theorem n265:JJ R:=⟨abn,n274⟩
theorem abo:R.Fn 287 Ti:=⟨by kernel_rfl⟩
theorem n287:Tj R:=⟨abo⟩
theorem abp:R.Fn 285 Tk:=⟨by kernel_rfl⟩
theorem n285:NT R:=⟨abp,n287⟩
theorem abq:R.Fn 284 Tn:=⟨by kernel_rfl⟩
theorem n284:NV R:=⟨abq,n264,n265,n285⟩
theorem abr:R.Fn 278 Ty:=⟨by kernel_rfl⟩
theorem n278:JP R:=⟨abr,n284⟩
theorem abt:R.Fn 266 Tz:=⟨by kernel_rfl⟩
theorem n266:N5 R:=⟨abt,n262,n278⟩
theorem abu:R.Fn 267 Tp:=⟨by kernel_rfl⟩
theorem n267:JK R:=⟨abu⟩
theorem abv:R.Fn 252 TB:=⟨by kernel_rfl⟩
theorem n252:N6 R:=⟨abv,n266,n267⟩
theorem abw:R.Fn 231 TN:=⟨by kernel_rfl⟩
theorem n231:Oc R:=⟨abw,n251,n252⟩
theorem abx:R.Fn 279 UR:=⟨by kernel_rfl⟩
theorem n279:AY R:=⟨abx⟩
theorem aby:R.Fn 280 US:=⟨by kernel_rfl⟩
theorem n280:DN R:=⟨aby⟩
theorem abz:R.Fn 268 UT:=⟨by kernel_rfl⟩
theorem n268:O3 R:=⟨abz,n276,n279,n280⟩
theorem abA:R.Fn 269 UU:=⟨by kernel_rfl⟩
theorem n269:Kc R:=⟨abA,n279,n280⟩
theorem abB:R.Fn 253 U1:=⟨by kernel_rfl⟩
theorem n253:O8 R:=⟨abB,n268,n269⟩
theorem abC:R.Fn 232 U9:=⟨by kernel_rfl⟩
theorem n232:Pd R:=⟨abC,n253⟩
theorem abD:R.Fn 263 TC:=⟨by kernel_rfl⟩
theorem n263:JS R:=⟨abD,n267⟩
theorem abE:R.Fn 246 TE:=⟨by kernel_rfl⟩
theorem n246:N7 R:=⟨abE,n262,n263⟩
theorem abF:R.Fn 233 TP:=⟨by kernel_rfl⟩
theorem n233:Od R:=⟨abF,n231,n246⟩
theorem abG:R.Fn 254 U2:=⟨by kernel_rfl⟩
theorem n254:O9 R:=⟨abG,n269⟩
theorem abH:R.Fn 234 Va:=⟨by kernel_rfl⟩
theorem n234:Pe R:=⟨abH,n232,n254⟩
theorem abI:R.Fn 281 Tq:=⟨by kernel_rfl⟩
theorem n281:NY R:=⟨abI⟩
theorem abJ:R.Fn 270 Ts:=⟨by kernel_rfl⟩
theorem n270:NZ R:=⟨abJ,n281⟩
theorem abK:R.Fn 255 Tu:=⟨by kernel_rfl⟩
theorem n255:JL R:=⟨abK,n270⟩
theorem abL:R.Fn 256 TG:=⟨by kernel_rfl⟩
theorem n256:N8 R:=⟨abL,n255⟩
theorem abM:R.Fn 235 TR:=⟨by kernel_rfl⟩
theorem n235:Oe R:=⟨abM,n255,n256⟩
theorem abN:R.Fn 282 UV:=⟨by kernel_rfl⟩
theorem n282:O4 R:=⟨abN,n279,n280⟩
theorem abO:R.Fn 271 U4:=⟨by kernel_rfl⟩
theorem n271:O' R:=⟨abO,n282⟩
theorem abP:R.Fn 257 U5:=⟨by kernel_rfl⟩
theorem n257:Pa R:=⟨abP,n271⟩
theorem abQ:R.Fn 236 Vc:=⟨by kernel_rfl⟩
theorem n236:Pf R:=⟨abQ,n257⟩
theorem abR:R.Fn 260 Tv:=⟨by kernel_rfl⟩
theorem n260:N0 R:=⟨abR⟩
theorem abS:R.Fn 243 TU:=⟨by kernel_rfl⟩
theorem n243:Of R:=⟨abS,n260⟩
theorem abT:R.Fn 248 Tw:=⟨by kernel_rfl⟩
theorem n248:N3 R:=⟨abT,n264,n265⟩
theorem abU:R.Fn 249 TI:=⟨by kernel_rfl⟩
theorem n249:N9 R:=⟨abU,n248⟩
theorem abV:R.Fn 241 TW:=⟨by kernel_rfl⟩
theorem n241:JU R:=⟨abV,n233,n235,n243,n249⟩
theorem abW:R.Fn 273 UX:=⟨by kernel_rfl⟩
theorem n273:O5 R:=⟨abW,n279⟩
theorem abX:R.Fn 261 UZ:=⟨by kernel_rfl⟩
theorem n261:O6 R:=⟨abX,n273⟩
theorem abY:R.Fn 244 Ve:=⟨by kernel_rfl⟩
theorem n244:Pg R:=⟨abY,n261⟩
theorem abZ:R.Fn 272 U0:=⟨by kernel_rfl⟩
theorem n272:O7 R:=⟨abZ,n279,n280⟩
theorem ab0:R.Fn 259 U7:=⟨by kernel_rfl⟩
theorem n259:Pb R:=⟨ab0,n272⟩
theorem ab1:R.Fn 242 Vg:=⟨by kernel_rfl⟩
theorem n242:Ph R:=⟨ab1,n234,n236,n244,n259⟩
theorem ab2:R.Fn 322 T7:=⟨by kernel_rfl⟩
theorem n322:On R:=⟨ab2⟩
theorem ab3:R.Fn 324 SK:=⟨by kernel_rfl⟩
theorem n324:NF R:=⟨ab3⟩
theorem ab4:R.Fn 323 SL:=⟨by kernel_rfl⟩
theorem n323:NG R:=⟨ab4,n324⟩
theorem ab5:R.Fn 307 T8:=⟨by kernel_rfl⟩
theorem n307:JW R:=⟨ab5,n322,n323⟩
theorem ab6:R.Fn 290 T9:=⟨by kernel_rfl⟩
theorem n290:Oo R:=⟨ab6,n307⟩
theorem ab7:R.Fn 291 Vo:=⟨by kernel_rfl⟩
theorem n291:Pl R:=⟨ab7⟩
theorem ab8:R.Fn 308 Ua:=⟨by kernel_rfl⟩
theorem n308:Oq R:=⟨ab8⟩
theorem ab9:R.Fn 292 Ub:=⟨by kernel_rfl⟩
theorem n292:Ot R:=⟨ab9,n307,n308⟩
theorem ab':R.Fn 293 Vq:=⟨by kernel_rfl⟩
theorem n293:Pm R:=⟨ab',n213⟩
theorem aca:R.Fn 315 Ud:=⟨by kernel_rfl⟩
theorem n315:Ou R:=⟨aca⟩
theorem acb:R.Fn 316 Uf:=⟨by kernel_rfl⟩
theorem n316:Ov R:=⟨acb⟩
theorem acd:R.Fn 317 Uh:=⟨by kernel_rfl⟩
theorem n317:Ow R:=⟨acd⟩
theorem ace:R.Fn 298 Ui:=⟨by kernel_rfl⟩
theorem n298:Oy R:=⟨ace,n315,n316,n317⟩
theorem acf:R.Fn 309 Uk:=⟨by kernel_rfl⟩
theorem n309:Oz R:=⟨acf,LY,n193,n290,n292⟩
theorem acg:R.Fn 310 Um:=⟨by kernel_rfl⟩
theorem n310:OA R:=⟨acg⟩
theorem ach:R.Fn 311 Uo:=⟨by kernel_rfl⟩
theorem n311:OB R:=⟨ach,ID,QU,XO,n196⟩
theorem aci:R.Fn 294 Uq:=⟨by kernel_rfl⟩
theorem n294:OC R:=⟨aci,n37,n298,n309,n310,n311⟩
theorem acj:R.Fn 312 Vs:=⟨by kernel_rfl⟩
theorem n312:Pn R:=⟨acj⟩
theorem ack:R.Fn 313 Vt:=⟨by kernel_rfl⟩
theorem n313:Po R:=⟨ack⟩
theorem acl:R.Fn 314 Vu:=⟨by kernel_rfl⟩
theorem n314:Pp R:=⟨acl,LZ,XV,n197,n212⟩
theorem acm:R.Fn 295 Vv:=⟨by kernel_rfl⟩
theorem n295:Pq R:=⟨acm,n38,L3,n198,n291,n293,n312,n313,n314⟩
theorem acn:R.Fn 345 Ut:=⟨by kernel_rfl⟩
theorem n345:JY R:=⟨acn⟩
theorem aco:R.Fn 355 Uu:=⟨by kernel_rfl⟩
theorem jQ:xm R:=⟨aco⟩
theorem acp:R.Fn 361 SM:=⟨by kernel_rfl⟩
theorem J1:JE R:=⟨acp⟩
theorem acq:R.Fn 362 SO:=⟨by kernel_rfl⟩
theorem J2:JF R:=⟨acq⟩
theorem acr:R.Fn 356 Uv:=⟨by kernel_rfl⟩
theorem uN:JZ R:=⟨acr,n101,J1,J2⟩
theorem acs:R.Fn 346 Uw:=⟨by kernel_rfl⟩
theorem n346:J3 R:=⟨acs,n294,jQ,uN⟩
theorem acu:R.Fn 357 Ux:=⟨by kernel_rfl⟩
theorem OE:OD R:=⟨acu⟩
theorem acv:R.Fn 358 Uy:=⟨by kernel_rfl⟩
theorem lA:GQ R:=⟨acv⟩
theorem acw:R.Fn 347 Uz:=⟨by kernel_rfl⟩
theorem DP:J4 R:=⟨acw,n241,jQ,OE,lA⟩
theorem acx:R.Fn 447 SQ:=⟨by kernel_rfl⟩
theorem SU:SR R:=⟨acx⟩
theorem acy:R.Fn 433 SS:=⟨by kernel_rfl⟩
theorem OG:NH R:=⟨acy,SU⟩
theorem acz:R.As 434:=⟨by kernel_rfl⟩
theorem OH:SV R:=⟨acz⟩
theorem acA:R.Fn 418 UA:=⟨by kernel_rfl⟩
theorem OV:OF R:=⟨acA,jQ,uN,OG,OH⟩
theorem acB:R.As 435:=⟨by kernel_rfl⟩
theorem J7:SX R:=⟨acB⟩
theorem acC:R.Fn 468 SZ:=⟨by kernel_rfl⟩
theorem DL:NI R:=⟨acC⟩
theorem acD:R.Fn 451 S0:=⟨by kernel_rfl⟩
theorem uO:NK R:=⟨acD,DL⟩
theorem acE:R.Fn 452 S5:=⟨by kernel_rfl⟩
theorem J5:NM R:=⟨acE⟩
theorem acF:R.Fn 450 UB:=⟨by kernel_rfl⟩
theorem J6:OI R:=⟨acF,uO,J5⟩
theorem acG:R.Fn 436 UD:=⟨by kernel_rfl⟩
theorem OL:OJ R:=⟨acG,lA,J6⟩
theorem acH:R.Fn 419 UE:=⟨by kernel_rfl⟩
theorem OW:OK R:=⟨acH,jQ,J7,OL⟩
theorem acI:R.Fn 420 VF:=⟨by kernel_rfl⟩
theorem Ko:Pv R:=⟨acI,n191⟩
theorem acJ:R.Fn 427 UF:=⟨by kernel_rfl⟩
theorem Px:OM R:=⟨acJ,jQ,lA⟩
theorem acK:R.Fn 437 UG:=⟨by kernel_rfl⟩
theorem OO:J8 R:=⟨acK⟩
theorem acL:R.Fn 438 S7:=⟨by kernel_rfl⟩
theorem OP:NN R:=⟨acL⟩
theorem acM:R.Fn 428 UH:=⟨by kernel_rfl⟩
theorem Py:ON R:=⟨acM,jQ,OO,OP⟩
theorem acN:R.Fn 421 VH:=⟨by kernel_rfl⟩
theorem PG:Pw R:=⟨acN,n346,DP,Px,Py⟩
theorem acO:R.As 439:=⟨by kernel_rfl⟩
theorem OR:S8 R:=⟨acO⟩
theorem acP:R.As 440:=⟨by kernel_rfl⟩
theorem OS:S9 R:=⟨acP⟩
theorem acQ:R.Fn 430 UI:=⟨by kernel_rfl⟩
theorem OX:OQ R:=⟨acQ,jQ,OR,OS⟩
theorem acR:R.Fn 454 Vy:=⟨by kernel_rfl⟩
theorem tn:GU R:=⟨acR⟩
theorem acS:R.Fn 441 Vz:=⟨by kernel_rfl⟩
theorem PB:Pr R:=⟨acS,n295,tn⟩
theorem acT:R.Fn 442 VA:=⟨by kernel_rfl⟩
theorem PC:Ps R:=⟨acT,tn⟩
theorem acU:R.Fn 456 VB:=⟨by kernel_rfl⟩
theorem oW:Km R:=⟨acU⟩
theorem acV:R.Fn 455 VC:=⟨by kernel_rfl⟩
theorem y1:Kn R:=⟨acV,oW⟩
theorem acW:R.Fn 443 VD:=⟨by kernel_rfl⟩
theorem PD:Pt R:=⟨acW,n242,tn,y1,oW⟩
theorem acX:R.Fn 444 VE:=⟨by kernel_rfl⟩
theorem PE:Pu R:=⟨acX,y1⟩
theorem acY:R.Fn 432 VI:=⟨by kernel_rfl⟩
theorem PH:PA R:=⟨acY,PB,PC,PD,PE⟩
theorem acZ:R.Fn 490 VJ:=⟨by kernel_rfl⟩
theorem PK:PF R:=⟨acZ,n345,Ko,PG,PH⟩
theorem ac0:R.Fn 505 UJ:=⟨by kernel_rfl⟩
theorem OY:OT R:=⟨ac0,n4,n12,n14⟩
theorem ac1:R.Fn 506 UK:=⟨by kernel_rfl⟩
theorem OZ:OU R:=⟨ac1,n11,n241⟩
theorem ac2:R.Fn 491 UL:=⟨by kernel_rfl⟩
theorem DQ:J9 R:=⟨ac2,OV,OW,OX,OY,OZ⟩
theorem ac3:R.Fn 493 VK:=⟨by kernel_rfl⟩
theorem DR:PI R:=⟨ac3,n221,n345,n346,DP,DQ⟩
theorem ac4:R.Fn 495 UN:=⟨by kernel_rfl⟩
theorem uP:J' R:=⟨ac4⟩
theorem ac5:R.Fn 496 UO:=⟨by kernel_rfl⟩
theorem DT:O0 R:=⟨ac5,uP⟩
theorem ac6:R.Fn 494 VL:=⟨by kernel_rfl⟩
theorem ac7:VM R:=⟨ac6,PK,DQ,DR,uP,DT⟩
end Go.Proofs.YtnfgjmbcfcnieaaGreat
