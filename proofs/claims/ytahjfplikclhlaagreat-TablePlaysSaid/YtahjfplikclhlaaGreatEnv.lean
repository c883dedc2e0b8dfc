/- The program, as the machine has it. -/
import Derived.Test.YtahjfplikclhlaaGreatU0
import Derived.Test.YtahjfplikclhlaaGreatProg
namespace Go.Proofs.YtahjfplikclhlaaGreat
open Go.AM Go.UM
noncomputable def tt:TT:=N7
 [.aO,
  .func,
  .int .i64,
  .int .i64,
  .bool,
  .int .u8,
  .int .u8,
  .struct [(0,2),(1,3),(2,4),(3,6)],
  .struct [(0,2),(1,3),(2,4),(3,6)],
  .str,
  .str,
  .str,
  .int .u64,
  .struct [(0,9),(1,12)],
  .struct [(0,9),(1,12)],
  .ptr 241,
  .ptr 244,
  .ptr 253,
  .struct [(0,17)],
  .struct [(0,17)],
  .iface,
  .int .i32,
  .slice 61,
  .ptr 85,
  .func,
  .slice 70,
  .func,
  .slice 59,
  .func,
  .int .i64,
  .func,
  .int .u64,
  .int .u32,
  .arr 8 5,
  .struct [(0,31),(1,3),(2,32),(3,33),(11,32),(12,32),(13,3),(14,3)],
  .struct [(0,31),(1,3),(2,32),(3,33),(11,32),(12,32),(13,3),(14,3)],
  .slice 47,
  .slice 118,
  .slice 43,
  .struct [(0,36),(1,37),(2,38)],
  .struct [(0,36),(1,37),(2,38)],
  .struct [(0,3),(1,38)],
  .struct [(0,3),(1,38)],
  .arr 3 3,
  .struct [(0,3),(1,43),(4,3)],
  .struct [(0,3),(1,43),(4,3)],
  .struct [(0,3),(1,3),(2,3)],
  .struct [(0,3),(1,3),(2,3)],
  .struct [(0,3),(1,43),(4,47),(7,47),(10,47)],
  .struct [(0,3),(1,43),(4,47),(7,47),(10,47)],
  .struct [(0,3),(1,40),(4,42),(6,45),(11,49)],
  .struct [(0,3),(1,40),(4,42),(6,45),(11,49)],
  .int .i64,
  .arr 9 52,
  .struct [(0,52),(1,52),(2,52)],
  .struct [(0,52),(1,52),(2,52)],
  .struct [(0,53),(9,55)],
  .struct [(0,53),(9,55)],
  .struct [(0,3),(1,3),(2,3),(3,3),(4,57)],
  .struct [(0,3),(1,3),(2,3),(3,3),(4,57)],
  .struct [(0,3),(1,3),(2,35),(17,51),(41,59)],
  .struct [(0,3),(1,3),(2,35),(17,51),(41,59)],
  .func,
  .func,
  .func,
  .func,
  .func,
  .func,
  .map 3 51,
  .struct [(0,3),(1,35),(16,51)],
  .struct [(0,3),(1,35),(16,51)],
  .aO,
  .func,
  .func,
  .func,
  .func,
  .ptr 78,
  .struct [(0,25),(1,27)],
  .struct [(0,25),(1,27)],
  .func,
  .func,
  .func,
  .map 3 70,
  .map 93 57,
  .struct [(0,82),(1,83)],
  .struct [(0,82),(1,83)],
  .slice 3,
  .func,
  .func,
  .func,
  .func,
  .func,
  .struct [(0,3),(1,3),(2,3),(3,3)],
  .struct [(0,3),(1,3),(2,3),(3,3)],
  .func,
  .func,
  .func,
  .func,
  .func,
  .func,
  .func,
  .func,
  .func,
  .func,
  .aO,
  .aO,
  .func,
  .func,
  .func,
  .func,
  .func,
  .func,
  .func,
  .func,
  .func,
  .func,
  .func,
  .func,
  .arr 2 3,
  .func,
  .func,
  .func,
  .int .u64,
  .func,
  .func,
  .func,
  .func,
  .func,
  .func,
  .func,
  .func,
  .func,
  .func,
  .slice 5,
  .func,
  .func,
  .aO,
  .func,
  .func,
  .func,
  .func,
  .func,
  .int .i64,
  .aO,
  .func,
  .func,
  .func,
  .aO,
  .func,
  .func,
  .func,
  .slice 55,
  .func,
  .func,
  .func,
  .func,
  .func,
  .func,
  .struct [(0,2),(1,31)],
  .struct [(0,2),(1,31)],
  .func,
  .func,
  .func,
  .func,
  .func,
  .func,
  .func,
  .func,
  .aO,
  .func,
  .func,
  .func,
  .func,
  .arr 5 3,
  .func,
  .func,
  .func,
  .func,
  .func,
  .func,
  .func,
  .func,
  .func,
  .func,
  .func,
  .func,
  .func,
  .func,
  .int .u64,
  .func,
  .func,
  .func,
  .ptr 3,
  .func,
  .slice 52,
  .aO,
  .func,
  .aO,
  .func,
  .aO,
  .func,
  .aO,
  .func,
  .func,
  .func,
  .func,
  .func,
  .func,
  .func,
  .func,
  .func,
  .slice 31,
  .func,
  .func,
  .aO,
  .func,
  .func,
  .func,
  .func,
  .func,
  .func,
  .func,
  .ptr 188,
  .aO,
  .func,
  .func,
  .func,
  .func,
  .func,
  .func,
  .func,
  .func,
  .func,
  .func,
  .func,
  .func,
  .func,
  .func,
  .func,
  .func,
  .struct [(0,17),(1,17),(2,17),(3,9)],
  .struct [(0,17),(1,17),(2,17),(3,9)],
  .arr 0 16,
  .struct [(0,242)],
  .struct [(0,242)],
  .func,
  .int .u8,
  .int .u8,
  .func,
  .ptr 5,
  .int .i32,
  .int .i32,
  .struct [(0,12),(1,12),(2,32),(3,246),(4,5),(5,5),(6,247),(7,248),(8,249),(9,250),(10,251)],
  .struct [(0,12),(1,12),(2,32),(3,246),(4,5),(5,5),(6,247),(7,248),(8,249),(9,250),(10,251)],
  .other]
 [1,1,1,1,1,1,1,4,4,1,1,1,1,2,2,1,1,1,1,1,1,1,1,1,1,1,1,1,1,1,1,1,1,8,15,15,1,1,1,3,3,2,2,3,5,5,3,3,13,13,24,24,1,9,3,3,12,12,16,16,57,57,1,1,1,1,1,1,1,40,40,1,1,1,1,1,1,2,2,1,1,1,1,1,2,2,1,1,1,1,1,1,4,4,1,1,1,1,1,1,1,1,1,1,1,1,1,1,1,1,1,1,1,1,1,1,1,1,2,1,1,1,1,1,1,1,1,1,1,1,1,1,1,1,1,1,1,1,1,1,1,1,1,1,1,1,1,1,1,1,1,1,1,1,1,1,1,1,2,2,1,1,1,1,1,1,1,1,1,1,1,1,1,5,1,1,1,1,1,1,1,1,1,1,1,1,1,1,1,1,1,1,1,1,1,1,1,1,1,1,1,1,1,1,1,1,1,1,1,1,1,1,1,1,1,1,1,1,1,1,1,1,1,1,1,1,1,1,1,1,1,1,1,1,1,1,1,1,1,1,4,4,0,0,0,1,1,1,1,1,1,1,11,11,1]
 [.aO [],
  .ar,
  .int .i64 0,
  .int .i64 0,
  .bool false,
  .int .u8 0,
  .int .u8 0,
  .agg [.int .i64 0,.int .i64 0,.bool false,.int .u8 0],
  .agg [.int .i64 0,.int .i64 0,.bool false,.int .u8 0],
  .str [],
  .str [],
  .str [],
  .int .u64 0,
  .agg [.str [],.int .u64 0],
  .agg [.str [],.int .u64 0],
  .bG,
  .bG,
  .bG,
  .agg [.bG],
  .agg [.bG],
  .dy,
  .int .i32 0,
  .ap,
  .bG,
  .ar,
  .ap,
  .ar,
  .ap,
  .ar,
  .int .i64 0,
  .ar,
  .int .u64 0,
  .int .u32 0,
  .agg [.int .u8 0,.int .u8 0,.int .u8 0,.int .u8 0,.int .u8 0,.int .u8 0,.int .u8 0,.int .u8 0],
  .agg [.int .u64 0,.int .i64 0,.int .u32 0,.int .u8 0,.int .u8 0,.int .u8 0,.int .u8 0,.int .u8 0,.int .u8 0,.int .u8 0,.int .u8 0,.int .u32 0,.int .u32 0,.int .i64 0,.int .i64 0],
  .agg [.int .u64 0,.int .i64 0,.int .u32 0,.int .u8 0,.int .u8 0,.int .u8 0,.int .u8 0,.int .u8 0,.int .u8 0,.int .u8 0,.int .u8 0,.int .u32 0,.int .u32 0,.int .i64 0,.int .i64 0],
  .ap,
  .ap,
  .ap,
  .agg [.ap,.ap,.ap],
  .agg [.ap,.ap,.ap],
  .agg [.int .i64 0,.ap],
  .agg [.int .i64 0,.ap],
  .agg [.int .i64 0,.int .i64 0,.int .i64 0],
  .agg [.int .i64 0,.int .i64 0,.int .i64 0,.int .i64 0,.int .i64 0],
  .agg [.int .i64 0,.int .i64 0,.int .i64 0,.int .i64 0,.int .i64 0],
  .agg [.int .i64 0,.int .i64 0,.int .i64 0],
  .agg [.int .i64 0,.int .i64 0,.int .i64 0],
  .agg [.int .i64 0,.int .i64 0,.int .i64 0,.int .i64 0,.int .i64 0,.int .i64 0,.int .i64 0,.int .i64 0,.int .i64 0,.int .i64 0,.int .i64 0,.int .i64 0,.int .i64 0],
  .agg [.int .i64 0,.int .i64 0,.int .i64 0,.int .i64 0,.int .i64 0,.int .i64 0,.int .i64 0,.int .i64 0,.int .i64 0,.int .i64 0,.int .i64 0,.int .i64 0,.int .i64 0],
  .agg [.int .i64 0,.ap,.ap,.ap,.int .i64 0,.ap,.int .i64 0,.int .i64 0,.int .i64 0,.int .i64 0,.int .i64 0,.int .i64 0,.int .i64 0,.int .i64 0,.int .i64 0,.int .i64 0,.int .i64 0,.int .i64 0,.int .i64 0,.int .i64 0,.int .i64 0,.int .i64 0,.int .i64 0,.int .i64 0],
  .agg [.int .i64 0,.ap,.ap,.ap,.int .i64 0,.ap,.int .i64 0,.int .i64 0,.int .i64 0,.int .i64 0,.int .i64 0,.int .i64 0,.int .i64 0,.int .i64 0,.int .i64 0,.int .i64 0,.int .i64 0,.int .i64 0,.int .i64 0,.int .i64 0,.int .i64 0,.int .i64 0,.int .i64 0,.int .i64 0],
  .int .i64 0,
  .agg [.int .i64 0,.int .i64 0,.int .i64 0,.int .i64 0,.int .i64 0,.int .i64 0,.int .i64 0,.int .i64 0,.int .i64 0],
  .agg [.int .i64 0,.int .i64 0,.int .i64 0],
  .agg [.int .i64 0,.int .i64 0,.int .i64 0],
  .agg [.int .i64 0,.int .i64 0,.int .i64 0,.int .i64 0,.int .i64 0,.int .i64 0,.int .i64 0,.int .i64 0,.int .i64 0,.int .i64 0,.int .i64 0,.int .i64 0],
  .agg [.int .i64 0,.int .i64 0,.int .i64 0,.int .i64 0,.int .i64 0,.int .i64 0,.int .i64 0,.int .i64 0,.int .i64 0,.int .i64 0,.int .i64 0,.int .i64 0],
  .agg [.int .i64 0,.int .i64 0,.int .i64 0,.int .i64 0,.int .i64 0,.int .i64 0,.int .i64 0,.int .i64 0,.int .i64 0,.int .i64 0,.int .i64 0,.int .i64 0,.int .i64 0,.int .i64 0,.int .i64 0,.int .i64 0],
  .agg [.int .i64 0,.int .i64 0,.int .i64 0,.int .i64 0,.int .i64 0,.int .i64 0,.int .i64 0,.int .i64 0,.int .i64 0,.int .i64 0,.int .i64 0,.int .i64 0,.int .i64 0,.int .i64 0,.int .i64 0,.int .i64 0],
  .agg [.int .i64 0,.int .i64 0,.int .u64 0,.int .i64 0,.int .u32 0,.int .u8 0,.int .u8 0,.int .u8 0,.int .u8 0,.int .u8 0,.int .u8 0,.int .u8 0,.int .u8 0,.int .u32 0,.int .u32 0,.int .i64 0,.int .i64 0,.int .i64 0,.ap,.ap,.ap,.int .i64 0,.ap,.int .i64 0,.int .i64 0,.int .i64 0,.int .i64 0,.int .i64 0,.int .i64 0,.int .i64 0,.int .i64 0,.int .i64 0,.int .i64 0,.int .i64 0,.int .i64 0,.int .i64 0,.int .i64 0,.int .i64 0,.int .i64 0,.int .i64 0,.int .i64 0,.int .i64 0,.int .i64 0,.int .i64 0,.int .i64 0,.int .i64 0,.int .i64 0,.int .i64 0,.int .i64 0,.int .i64 0,.int .i64 0,.int .i64 0,.int .i64 0,.int .i64 0,.int .i64 0,.int .i64 0,.int .i64 0],
  .agg [.int .i64 0,.int .i64 0,.int .u64 0,.int .i64 0,.int .u32 0,.int .u8 0,.int .u8 0,.int .u8 0,.int .u8 0,.int .u8 0,.int .u8 0,.int .u8 0,.int .u8 0,.int .u32 0,.int .u32 0,.int .i64 0,.int .i64 0,.int .i64 0,.ap,.ap,.ap,.int .i64 0,.ap,.int .i64 0,.int .i64 0,.int .i64 0,.int .i64 0,.int .i64 0,.int .i64 0,.int .i64 0,.int .i64 0,.int .i64 0,.int .i64 0,.int .i64 0,.int .i64 0,.int .i64 0,.int .i64 0,.int .i64 0,.int .i64 0,.int .i64 0,.int .i64 0,.int .i64 0,.int .i64 0,.int .i64 0,.int .i64 0,.int .i64 0,.int .i64 0,.int .i64 0,.int .i64 0,.int .i64 0,.int .i64 0,.int .i64 0,.int .i64 0,.int .i64 0,.int .i64 0,.int .i64 0,.int .i64 0],
  .ar,
  .ar,
  .ar,
  .ar,
  .ar,
  .ar,
  .cb,
  .agg [.int .i64 0,.int .u64 0,.int .i64 0,.int .u32 0,.int .u8 0,.int .u8 0,.int .u8 0,.int .u8 0,.int .u8 0,.int .u8 0,.int .u8 0,.int .u8 0,.int .u32 0,.int .u32 0,.int .i64 0,.int .i64 0,.int .i64 0,.ap,.ap,.ap,.int .i64 0,.ap,.int .i64 0,.int .i64 0,.int .i64 0,.int .i64 0,.int .i64 0,.int .i64 0,.int .i64 0,.int .i64 0,.int .i64 0,.int .i64 0,.int .i64 0,.int .i64 0,.int .i64 0,.int .i64 0,.int .i64 0,.int .i64 0,.int .i64 0,.int .i64 0],
  .agg [.int .i64 0,.int .u64 0,.int .i64 0,.int .u32 0,.int .u8 0,.int .u8 0,.int .u8 0,.int .u8 0,.int .u8 0,.int .u8 0,.int .u8 0,.int .u8 0,.int .u32 0,.int .u32 0,.int .i64 0,.int .i64 0,.int .i64 0,.ap,.ap,.ap,.int .i64 0,.ap,.int .i64 0,.int .i64 0,.int .i64 0,.int .i64 0,.int .i64 0,.int .i64 0,.int .i64 0,.int .i64 0,.int .i64 0,.int .i64 0,.int .i64 0,.int .i64 0,.int .i64 0,.int .i64 0,.int .i64 0,.int .i64 0,.int .i64 0,.int .i64 0],
  .aO [.bad,.int .i64 0],
  .ar,
  .ar,
  .ar,
  .ar,
  .bG,
  .agg [.ap,.ap],
  .agg [.ap,.ap],
  .ar,
  .ar,
  .ar,
  .cb,
  .cb,
  .agg [.cb,.cb],
  .agg [.cb,.cb],
  .ap,
  .ar,
  .ar,
  .ar,
  .ar,
  .ar,
  .agg [.int .i64 0,.int .i64 0,.int .i64 0,.int .i64 0],
  .agg [.int .i64 0,.int .i64 0,.int .i64 0,.int .i64 0],
  .ar,
  .ar,
  .ar,
  .ar,
  .ar,
  .ar,
  .ar,
  .ar,
  .ar,
  .ar,
  .aO [.bad,.bool false],
  .aO [.bad,.bool false],
  .ar,
  .ar,
  .ar,
  .ar,
  .ar,
  .ar,
  .ar,
  .ar,
  .ar,
  .ar,
  .ar,
  .ar,
  .agg [.int .i64 0,.int .i64 0],
  .ar,
  .ar,
  .ar,
  .int .u64 0,
  .ar,
  .ar,
  .ar,
  .ar,
  .ar,
  .ar,
  .ar,
  .ar,
  .ar,
  .ar,
  .ap,
  .ar,
  .ar,
  .aO [.bad,.int .i64 0],
  .ar,
  .ar,
  .ar,
  .ar,
  .ar,
  .int .i64 0,
  .aO [.int .i64 0,.int .i64 0],
  .ar,
  .ar,
  .ar,
  .aO [.int .i64 0,.bool false],
  .ar,
  .ar,
  .ar,
  .ap,
  .ar,
  .ar,
  .ar,
  .ar,
  .ar,
  .ar,
  .agg [.int .i64 0,.int .u64 0],
  .agg [.int .i64 0,.int .u64 0],
  .ar,
  .ar,
  .ar,
  .ar,
  .ar,
  .ar,
  .ar,
  .ar,
  .aO [.ap,.int .i64 0],
  .ar,
  .ar,
  .ar,
  .ar,
  .agg [.int .i64 0,.int .i64 0,.int .i64 0,.int .i64 0,.int .i64 0],
  .ar,
  .ar,
  .ar,
  .ar,
  .ar,
  .ar,
  .ar,
  .ar,
  .ar,
  .ar,
  .ar,
  .ar,
  .ar,
  .ar,
  .int .u64 0,
  .ar,
  .ar,
  .ar,
  .bG,
  .ar,
  .ap,
  .aO [.int .i64 0,.bool false],
  .ar,
  .aO [.int .u64 0,.bool false],
  .ar,
  .aO [.int .u64 0,.int .u64 0],
  .ar,
  .aO [.bad,.bool false],
  .ar,
  .ar,
  .ar,
  .ar,
  .ar,
  .ar,
  .ar,
  .ar,
  .ar,
  .ap,
  .ar,
  .ar,
  .aO [.ap,.int .i64 0],
  .ar,
  .ar,
  .ar,
  .ar,
  .ar,
  .ar,
  .ar,
  .bG,
  .aO [.int .i64 0,.int .i64 0],
  .ar,
  .ar,
  .ar,
  .ar,
  .ar,
  .ar,
  .ar,
  .ar,
  .ar,
  .ar,
  .ar,
  .ar,
  .ar,
  .ar,
  .ar,
  .ar,
  .agg [.bG,.bG,.bG,.str []],
  .agg [.bG,.bG,.bG,.str []],
  .agg [],
  .agg [],
  .agg [],
  .ar,
  .int .u8 0,
  .int .u8 0,
  .ar,
  .bG,
  .int .i32 0,
  .int .i32 0,
  .agg [.int .u64 0,.int .u64 0,.int .u32 0,.int .u8 0,.int .u8 0,.int .u8 0,.int .u8 0,.ar,.bG,.int .i32 0,.int .i32 0],
  .agg [.int .u64 0,.int .u64 0,.int .u32 0,.int .u8 0,.int .u8 0,.int .u8 0,.int .u8 0,.ar,.bG,.int .i32 0,.int .i32 0],
  .bG]
theorem hT:PT Tryz.prog tt:=⟨JJ 255 (by kernel_rfl) (by kernel_rfl) (by kernel_rfl),by kernel_rfl⟩
def ftl:List (Nat × Nat):=[(37,71),(38,116),(54,107),(55,154),(62,150),(63,174),(71,108),(72,175),(82,106),(83,153),(84,99),(85,111),(89,59),(100,147),(101,53),(106,171),(191,32),(193,98),(196,105),(197,152),(198,109),(204,58),(206,141),(207,142),(208,143),(209,144),(210,145),(211,146),(212,155),(213,151),(217,168),(218,169),(219,170),(231,64),(232,159),(233,36),(234,119),(235,34),(236,117),(241,16),(242,75),(243,35),(244,118),(246,63),(248,65),(249,37),(251,95),(252,94),(253,179),(254,158),(255,60),(256,61),(257,156),(259,120),(260,62),(261,157),(262,91),(263,92),(264,97),(265,96),(266,136),(267,93),(268,187),(269,178),(270,90),(271,176),(272,160),(273,177),(274,137),(275,138),(276,139),(277,140),(278,165),(279,180),(280,181),(281,135),(282,186),(283,167),(284,166),(285,183),(286,184),(287,188),(290,100),(291,113),(292,101),(293,114),(294,43),(295,73),(298,68),(299,33),(307,148),(308,149),(309,67),(310,69),(311,70),(312,110),(313,112),(314,115),(315,102),(316,103),(317,104),(322,173),(323,172),(324,185),(343,14),(345,8),(346,21),(347,17),(355,24),(356,27),(357,38),(358,31),(361,51),(362,52),(404,88),(417,3),(418,9),(419,10),(420,12),(421,11),(422,13),(423,15),(424,4),(425,5),(426,6),(427,18),(428,19),(429,7),(430,20),(431,22),(432,23),(433,26),(434,25),(435,28),(436,29),(437,40),(438,39),(439,41),(440,42),(441,44),(442,45),(443,46),(444,47),(445,48),(446,49),(447,50),(448,55),(449,54),(450,30),(451,57),(452,56),(454,72),(455,74),(456,76),(457,77),(458,78),(459,79),(460,80),(461,81),(462,82),(463,83),(464,84),(465,85),(466,86),(467,87),(468,89),(469,121),(470,122),(471,123),(472,124),(473,125),(474,126),(475,127),(476,128),(477,129),(478,130),(479,131),(480,132),(481,133),(482,134),(483,161),(484,162),(485,163),(486,164),(487,182)]
def tyl:List (Nat × Nat):=[(0,32),(1,33),(2,35),(4,5),(5,173),(6,31),(10,3),(12,42),(13,43),(18,118),(22,86),(23,9),(25,40),(26,47),(31,55),(32,52),(33,57),(37,53),(38,159),(39,51),(40,45),(41,49),(44,59),(45,70),(46,4),(47,85),(48,25),(49,93),(51,133),(55,61),(56,78),(57,82),(58,188)]
noncomputable def R:Env:= {P:=Tryz.prog,T:=tt,ok:=hT,ft:=VV ftl,ty:=VV tyl}
theorem h37:R.Fn 37 c37:=⟨by kernel_rfl⟩
theorem n37:Wi R:=⟨h37⟩
theorem h38:R.Fn 38 c38:=⟨by kernel_rfl⟩
theorem n38:Wt R:=⟨h38⟩
theorem h62:R.Fn 62 c62:=⟨by kernel_rfl⟩
theorem n62:V8 R:=⟨h62⟩
theorem h54:R.Fn 54 c54:=⟨by kernel_rfl⟩
theorem FW:K9 R:=⟨h54,n62⟩
theorem ZV:R.Fn 63 c63:=⟨by kernel_rfl⟩
theorem FX:Uo R:=⟨ZV⟩
theorem h55:R.Fn 55 c55:=⟨by kernel_rfl⟩
theorem Jd:RV R:=⟨h55,FX⟩
theorem h71:R.Fn 71 c71:=⟨by kernel_rfl⟩
theorem NG:Qs R:=⟨h71,FW⟩
theorem h72:R.Fn 72 c72:=⟨by kernel_rfl⟩
theorem Wv:Ws R:=⟨h72,Jd,FX⟩
theorem WX:R.Fn 106 O3:=⟨by kernel_rfl⟩
theorem n106:Kq R:=⟨WX⟩
theorem WY:R.Fn 100 O5:=⟨by kernel_rfl⟩
theorem n100:Kr R:=⟨WY,n106⟩
theorem h84:R.Fn 84 c84:=⟨by kernel_rfl⟩
theorem Jc:Um R:=⟨h84,n100⟩
theorem h82:R.Fn 82 c82:=⟨by kernel_rfl⟩
theorem Un:Wm R:=⟨h82,Jc⟩
theorem h85:R.Fn 85 c85:=⟨by kernel_rfl⟩
theorem Je:Uq R:=⟨h85⟩
theorem h83:R.Fn 83 c83:=⟨by kernel_rfl⟩
theorem Ur:Wx R:=⟨h83,Je⟩
theorem h89:R.Fn 89 c89:=⟨by kernel_rfl⟩
theorem Us:Wy R:=⟨h89⟩
theorem WZ:R.Fn 101 O7:=⟨by kernel_rfl⟩
theorem n101:G3 R:=⟨WZ⟩
theorem W4:R.Fn 191 Rp:=⟨by kernel_rfl⟩
theorem n191:LD R:=⟨W4⟩
theorem W5:R.Fn 206 Qt:=⟨by kernel_rfl⟩
theorem n206:La R:=⟨W5⟩
theorem W6:R.Fn 207 Qv:=⟨by kernel_rfl⟩
theorem n207:Lb R:=⟨W6⟩
theorem W7:R.Fn 208 Qx:=⟨by kernel_rfl⟩
theorem n208:Lc R:=⟨W7⟩
theorem W8:R.Fn 217 O8:=⟨by kernel_rfl⟩
theorem n217:Kt R:=⟨W8⟩
theorem W9:R.Fn 209 O':=⟨by kernel_rfl⟩
theorem n209:Ku R:=⟨W9,n217⟩
theorem Xa:R.Fn 218 Pb:=⟨by kernel_rfl⟩
theorem n218:Kv R:=⟨Xa⟩
theorem Xb:R.Fn 210 Pe:=⟨by kernel_rfl⟩
theorem n210:Kw R:=⟨Xb,n218⟩
theorem Xc:R.Fn 219 Pg:=⟨by kernel_rfl⟩
theorem n219:Kx R:=⟨Xc⟩
theorem Xd:R.Fn 211 Ph:=⟨by kernel_rfl⟩
theorem n211:Ky R:=⟨Xd,n219⟩
theorem Xe:R.Fn 193 Qy:=⟨by kernel_rfl⟩
theorem n193:Hk R:=⟨Xe,n206,n207,n208,n209,n210,n211⟩
theorem Xf:R.Fn 196 Qz:=⟨by kernel_rfl⟩
theorem n196:Le R:=⟨Xf,FW,NG,n193⟩
theorem Xg:R.Fn 213 RX:=⟨by kernel_rfl⟩
theorem n213:HE R:=⟨Xg⟩
theorem Xh:R.Fn 198 RY:=⟨by kernel_rfl⟩
theorem n198:HF R:=⟨Xh,n213⟩
theorem Xi:R.Fn 212 RZ:=⟨by kernel_rfl⟩
theorem n212:HG R:=⟨Xi,Wv⟩
theorem Xj:R.Fn 197 R2:=⟨by kernel_rfl⟩
theorem n197:LX R:=⟨Xj,n198,n212⟩
theorem Xk:R.Fn 204 R4:=⟨by kernel_rfl⟩
theorem n204:LY R:=⟨Xk⟩
theorem Xl:R.Fn 251 Qh:=⟨by kernel_rfl⟩
theorem n251:K3 R:=⟨Xl⟩
theorem Xm:R.Fn 262 P6:=⟨by kernel_rfl⟩
theorem n262:Eu R:=⟨Xm⟩
theorem Xo:R.Fn 275 PH:=⟨by kernel_rfl⟩
theorem n275:KI R:=⟨Xo⟩
theorem Xp:R.Fn 276 Pj:=⟨by kernel_rfl⟩
theorem n276:G4 R:=⟨Xp⟩
theorem Xq:R.Xn 286 "math/bits.Sub64" :=⟨by kernel_rfl⟩
theorem n286:Pk R:=⟨Xq⟩
theorem Xr:R.Fn 283 PI:=⟨by kernel_rfl⟩
theorem n283:KK R:=⟨Xr,n286⟩
theorem Xs:R.Fn 277 PK:=⟨by kernel_rfl⟩
theorem n277:KM R:=⟨Xs,n283⟩
theorem Xt:R.Fn 264 PM:=⟨by kernel_rfl⟩
theorem n264:G7 R:=⟨Xt,n275,n276,n277⟩
theorem Xu:R.Fn 274 PN:=⟨by kernel_rfl⟩
theorem n274:G8 R:=⟨Xu⟩
theorem Xv:R.Fn 265 PU:=⟨by kernel_rfl⟩
theorem n265:G' R:=⟨Xv,n274⟩
theorem Xw:R.Fn 287 PO:=⟨by kernel_rfl⟩
theorem n287:PP R:=⟨Xw⟩
theorem Xx:R.Fn 285 PQ:=⟨by kernel_rfl⟩
theorem n285:KO R:=⟨Xx,n287⟩
theorem Xy:R.Fn 284 PV:=⟨by kernel_rfl⟩
theorem n284:KR R:=⟨Xy,n264,n265,n285⟩
theorem Xz:R.Fn 278 P7:=⟨by kernel_rfl⟩
theorem n278:Hf R:=⟨Xz,n284⟩
theorem XA:R.Fn 266 P8:=⟨by kernel_rfl⟩
theorem n266:KY R:=⟨XA,n262,n278⟩
theorem XB:R.Fn 267 PX:=⟨by kernel_rfl⟩
theorem n267:Ha R:=⟨XB⟩
theorem XC:R.Fn 252 P':=⟨by kernel_rfl⟩
theorem n252:KZ R:=⟨XC,n266,n267⟩
theorem XD:R.Fn 231 Qi:=⟨by kernel_rfl⟩
theorem n231:K4 R:=⟨XD,n251,n252⟩
theorem XE:R.Fn 279 Rr:=⟨by kernel_rfl⟩
theorem n279:y4 R:=⟨XE⟩
theorem XF:R.Fn 280 Rs:=⟨by kernel_rfl⟩
theorem n280:BU R:=⟨XF⟩
theorem XG:R.Fn 268 Rt:=⟨by kernel_rfl⟩
theorem n268:LF R:=⟨XG,n276,n279,n280⟩
theorem XH:R.Fn 269 Ru:=⟨by kernel_rfl⟩
theorem n269:Hz R:=⟨XH,n279,n280⟩
theorem XI:R.Fn 253 RE:=⟨by kernel_rfl⟩
theorem n253:LL R:=⟨XI,n268,n269⟩
theorem XJ:R.Fn 232 RM:=⟨by kernel_rfl⟩
theorem n232:LQ R:=⟨XJ,n253⟩
theorem XK:R.Fn 263 Qa:=⟨by kernel_rfl⟩
theorem n263:Hi R:=⟨XK,n267⟩
theorem XL:R.Fn 246 Qb:=⟨by kernel_rfl⟩
theorem n246:K0 R:=⟨XL,n262,n263⟩
theorem XM:R.Fn 233 Qk:=⟨by kernel_rfl⟩
theorem n233:K5 R:=⟨XM,n231,n246⟩
theorem XN:R.Fn 254 RF:=⟨by kernel_rfl⟩
theorem n254:LM R:=⟨XN,n269⟩
theorem XO:R.Fn 234 RO:=⟨by kernel_rfl⟩
theorem n234:LR R:=⟨XO,n232,n254⟩
theorem XP:R.Fn 281 PY:=⟨by kernel_rfl⟩
theorem n281:KU R:=⟨XP⟩
theorem XQ:R.Fn 270 P0:=⟨by kernel_rfl⟩
theorem n270:KV R:=⟨XQ,n281⟩
theorem XR:R.Fn 255 P3:=⟨by kernel_rfl⟩
theorem n255:Hb R:=⟨XR,n270⟩
theorem XS:R.Fn 256 Qd:=⟨by kernel_rfl⟩
theorem n256:K1 R:=⟨XS,n255⟩
theorem XT:R.Fn 235 Qm:=⟨by kernel_rfl⟩
theorem n235:K6 R:=⟨XT,n255,n256⟩
theorem XU:R.Fn 282 Rv:=⟨by kernel_rfl⟩
theorem n282:LG R:=⟨XU,n279,n280⟩
theorem XV:R.Fn 271 RH:=⟨by kernel_rfl⟩
theorem n271:LN R:=⟨XV,n282⟩
theorem XW:R.Fn 257 RI:=⟨by kernel_rfl⟩
theorem n257:LO R:=⟨XW,n271⟩
theorem XX:R.Fn 236 RQ:=⟨by kernel_rfl⟩
theorem n236:LS R:=⟨XX,n257⟩
theorem XY:R.Fn 260 P4:=⟨by kernel_rfl⟩
theorem n260:KW R:=⟨XY⟩
theorem XZ:R.Fn 243 Qo:=⟨by kernel_rfl⟩
theorem n243:K7 R:=⟨XZ,n260⟩
theorem X0:R.Fn 248 P5:=⟨by kernel_rfl⟩
theorem n248:KX R:=⟨X0,n264,n265⟩
theorem X1:R.Fn 249 Qf:=⟨by kernel_rfl⟩
theorem n249:K2 R:=⟨X1,n248⟩
theorem X2:R.Fn 241 Qq:=⟨by kernel_rfl⟩
theorem n241:K8 R:=⟨X2,n233,n235,n243,n249⟩
theorem X3:R.Fn 273 RA:=⟨by kernel_rfl⟩
theorem n273:LH R:=⟨X3,n279⟩
theorem X4:R.Fn 261 RC:=⟨by kernel_rfl⟩
theorem n261:LI R:=⟨X4,n273⟩
theorem X5:R.Fn 244 RS:=⟨by kernel_rfl⟩
theorem n244:LU R:=⟨X5,n261⟩
theorem X6:R.Fn 272 RD:=⟨by kernel_rfl⟩
theorem n272:LJ R:=⟨X6,n279,n280⟩
theorem X7:R.Fn 259 RK:=⟨by kernel_rfl⟩
theorem n259:LP R:=⟨X7,n272⟩
theorem X8:R.Fn 242 RU:=⟨by kernel_rfl⟩
theorem n242:LV R:=⟨X8,n234,n236,n244,n259⟩
theorem X9:R.Fn 322 QB:=⟨by kernel_rfl⟩
theorem n322:Lf R:=⟨X9⟩
theorem X':R.Fn 324 Pm:=⟨by kernel_rfl⟩
theorem n324:KA R:=⟨X'⟩
theorem Ya:R.Fn 323 Pn:=⟨by kernel_rfl⟩
theorem n323:KB R:=⟨Ya,n324⟩
theorem Yb:R.Fn 307 QC:=⟨by kernel_rfl⟩
theorem n307:Hl R:=⟨Yb,n322,n323⟩
theorem Yc:R.Fn 290 QD:=⟨by kernel_rfl⟩
theorem n290:Lg R:=⟨Yc,n307⟩
theorem Yd:R.Fn 291 R6:=⟨by kernel_rfl⟩
theorem n291:LZ R:=⟨Yd⟩
theorem Ye:R.Fn 308 QF:=⟨by kernel_rfl⟩
theorem n308:Lh R:=⟨Ye⟩
theorem Yf:R.Fn 292 QG:=⟨by kernel_rfl⟩
theorem n292:Li R:=⟨Yf,n307,n308⟩
theorem Yg:R.Fn 293 R8:=⟨by kernel_rfl⟩
theorem n293:L3 R:=⟨Yg,n213⟩
theorem Yh:R.Fn 315 QI:=⟨by kernel_rfl⟩
theorem n315:Lj R:=⟨Yh⟩
theorem Yi:R.Fn 316 QK:=⟨by kernel_rfl⟩
theorem n316:Lk R:=⟨Yi⟩
theorem Yj:R.Fn 317 QM:=⟨by kernel_rfl⟩
theorem n317:Ll R:=⟨Yj⟩
theorem Yk:R.Fn 298 QN:=⟨by kernel_rfl⟩
theorem n298:Ln R:=⟨Yk,n315,n316,n317⟩
theorem Yl:R.Fn 309 QP:=⟨by kernel_rfl⟩
theorem n309:Lo R:=⟨Yl,Jc,n193,n290,n292⟩
theorem Ym:R.Fn 310 QR:=⟨by kernel_rfl⟩
theorem n310:Lp R:=⟨Ym⟩
theorem Yn:R.Fn 311 QT:=⟨by kernel_rfl⟩
theorem n311:Lq R:=⟨Yn,FW,NG,Un,n196⟩
theorem Yo:R.Fn 294 QV:=⟨by kernel_rfl⟩
theorem n294:Lr R:=⟨Yo,n37,n298,n309,n310,n311⟩
theorem Yp:R.Fn 312 R':=⟨by kernel_rfl⟩
theorem n312:L4 R:=⟨Yp⟩
theorem Yq:R.Fn 313 Sa:=⟨by kernel_rfl⟩
theorem n313:L5 R:=⟨Yq⟩
theorem Yr:R.Fn 314 Sb:=⟨by kernel_rfl⟩
theorem n314:L6 R:=⟨Yr,Jd,Ur,n197,n212⟩
theorem Ys:R.Fn 295 Sd:=⟨by kernel_rfl⟩
theorem n295:L7 R:=⟨Ys,n38,Je,n198,n291,n293,n312,n313,n314⟩
theorem Yt:R.Fn 299 Sf:=⟨by kernel_rfl⟩
theorem n299:L8 R:=⟨Yt,Us,n204⟩
theorem Yu:R.Fn 343 Sh:=⟨by kernel_rfl⟩
theorem n343:L9 R:=⟨Yu⟩
theorem Yv:R.Fn 345 QX:=⟨by kernel_rfl⟩
theorem n345:Hn R:=⟨Yv⟩
theorem Yw:R.Fn 355 QY:=⟨by kernel_rfl⟩
theorem eV:rJ R:=⟨Yw⟩
theorem Yx:R.Fn 361 Po:=⟨by kernel_rfl⟩
theorem Hq:G5 R:=⟨Yx⟩
theorem Yy:R.Fn 362 Pq:=⟨by kernel_rfl⟩
theorem Hr:G6 R:=⟨Yy⟩
theorem Yz:R.Fn 356 QZ:=⟨by kernel_rfl⟩
theorem sU:Ho R:=⟨Yz,n101,Hq,Hr⟩
theorem YA:R.Fn 346 Q0:=⟨by kernel_rfl⟩
theorem n346:BS R:=⟨YA,n294,eV,sU⟩
theorem YB:R.Fn 357 Q2:=⟨by kernel_rfl⟩
theorem Lt:Ls R:=⟨YB⟩
theorem YC:R.Fn 358 Q3:=⟨by kernel_rfl⟩
theorem kr:Ey R:=⟨YC⟩
theorem YD:R.Fn 347 Q4:=⟨by kernel_rfl⟩
theorem BW:Ez R:=⟨YD,n241,eV,Lt,kr⟩
theorem YE:R.Fn 447 Ps:=⟨by kernel_rfl⟩
theorem Pv:Pt R:=⟨YE⟩
theorem YF:R.Fn 433 Pu:=⟨by kernel_rfl⟩
theorem Lu:KC R:=⟨YF,Pv⟩
theorem YG:R.As 434:=⟨by kernel_rfl⟩
theorem Lv:Pw R:=⟨YG⟩
theorem YH:R.Fn 418 Q6:=⟨by kernel_rfl⟩
theorem xf:EA R:=⟨YH,eV,sU,Lu,Lv⟩
theorem YI:R.As 435:=⟨by kernel_rfl⟩
theorem Hv:Px R:=⟨YI⟩
theorem YJ:R.Fn 468 PA:=⟨by kernel_rfl⟩
theorem BQ:KD R:=⟨YJ⟩
theorem YK:R.Fn 451 PB:=⟨by kernel_rfl⟩
theorem sV:KF R:=⟨YK,BQ⟩
theorem YL:R.Fn 452 PC:=⟨by kernel_rfl⟩
theorem Hs:KG R:=⟨YL⟩
theorem YM:R.Fn 450 Q8:=⟨by kernel_rfl⟩
theorem Ht:Lw R:=⟨YM,sV,Hs⟩
theorem YN:R.Fn 436 Ra:=⟨by kernel_rfl⟩
theorem Ly:Lx R:=⟨YN,kr,Ht⟩
theorem YO:R.Fn 419 Rb:=⟨by kernel_rfl⟩
theorem EF:Hu R:=⟨YO,eV,Hv,Ly⟩
theorem YP:R.Fn 420 Ss:=⟨by kernel_rfl⟩
theorem HO:Mh R:=⟨YP,n191⟩
theorem YQ:R.Fn 427 Re:=⟨by kernel_rfl⟩
theorem BX:EB R:=⟨YQ,eV,kr⟩
theorem YR:R.Fn 437 Rg:=⟨by kernel_rfl⟩
theorem Lz:Hw R:=⟨YR⟩
theorem YS:R.Fn 438 PE:=⟨by kernel_rfl⟩
theorem LA:KH R:=⟨YS⟩
theorem YT:R.Fn 428 Rh:=⟨by kernel_rfl⟩
theorem sW:BT R:=⟨YT,eV,Lz,LA⟩
theorem YU:R.Fn 421 Sv:=⟨by kernel_rfl⟩
theorem Mr:Mi R:=⟨YU,n346,BW,BX,sW⟩
theorem YV:R.Fn 422 Si:=⟨by kernel_rfl⟩
theorem xg:Ma R:=⟨YV,n299⟩
theorem YW:R.Fn 431 Sw:=⟨by kernel_rfl⟩
theorem nA:HN R:=⟨YW⟩
theorem YX:R.Fn 423 Sx:=⟨by kernel_rfl⟩
theorem HP:Mj R:=⟨YX,n345,n346,xf,sW,nA⟩
theorem YY:R.As 439:=⟨by kernel_rfl⟩
theorem LB:PF R:=⟨YY⟩
theorem YZ:R.As 440:=⟨by kernel_rfl⟩
theorem LC:PG R:=⟨YZ⟩
theorem Y0:R.Fn 430 Rl:=⟨by kernel_rfl⟩
theorem EG:Hx R:=⟨Y0,eV,LB,LC⟩
theorem Y1:R.Fn 454 Sj:=⟨by kernel_rfl⟩
theorem rK:EE R:=⟨Y1⟩
theorem Y2:R.Fn 441 Sk:=⟨by kernel_rfl⟩
theorem Mn:Mb R:=⟨Y2,n295,rK⟩
theorem Y3:R.Fn 442 Sl:=⟨by kernel_rfl⟩
theorem Mo:Md R:=⟨Y3,rK⟩
theorem Y4:R.Fn 456 Sm:=⟨by kernel_rfl⟩
theorem nz:HL R:=⟨Y4⟩
theorem Y5:R.Fn 455 Sp:=⟨by kernel_rfl⟩
theorem xe:HM R:=⟨Y5,nz⟩
theorem Y6:R.Fn 443 Sq:=⟨by kernel_rfl⟩
theorem Mp:Me R:=⟨Y6,n242,rK,xe,nz⟩
theorem Y7:R.Fn 444 Sr:=⟨by kernel_rfl⟩
theorem Mq:Mg R:=⟨Y7,xe⟩
theorem Y8:R.Fn 432 Sz:=⟨by kernel_rfl⟩
theorem Mu:Mk R:=⟨Y8,Mn,Mo,Mp,Mq⟩
theorem Y9:R.Fn 429 SA:=⟨by kernel_rfl⟩
theorem Y':SB R:=⟨Y9,n343,n345,n346,BW,xf,EF,HO,Mr,xg,HP,BX,sW,EG,nA,Mu⟩
end Go.Proofs.YtahjfplikclhlaaGreat
