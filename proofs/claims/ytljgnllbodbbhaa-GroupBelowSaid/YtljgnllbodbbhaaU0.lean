/- Of the reckoning machine, and what is proved with it: texts joined by program. -/
import Derived.Test.YtljgnllbodbbhaaK3
import Derived.Laws.Externs
set_option linter.all false

namespace Go.UM
open Go.AM
def c276 : IFn := { np := 2, rs := [.t 4, .t 5], body :=
 (.seq
  (.ops [⟨some 4, none, .mv (.k (.int .u64 0))⟩,
    ⟨some 5, none, .mv (.k (.int .u64 0))⟩])
  (.seq
   (.ops [⟨some 14, none, .mv (.t 0)⟩,
     ⟨some 15, none, .bin .and (.t 14) (.k (.int .u64 4294967295))⟩,
     ⟨some 6, none, .mv (.t 15)⟩])
   (.seq
    (.ops [⟨some 16, none, .mv (.t 0)⟩,
      ⟨some 17, none, .bin .shr (.t 16) (.k (.int .u64 32))⟩,
      ⟨some 7, none, .mv (.t 17)⟩])
    (.seq
     (.ops [⟨some 18, none, .mv (.t 1)⟩,
       ⟨some 19, none, .bin .and (.t 18) (.k (.int .u64 4294967295))⟩,
       ⟨some 8, none, .mv (.t 19)⟩])
     (.seq
      (.ops [⟨some 20, none, .mv (.t 1)⟩,
        ⟨some 21, none, .bin .shr (.t 20) (.k (.int .u64 32))⟩,
        ⟨some 9, none, .mv (.t 21)⟩])
      (.seq
       (.ops [⟨some 22, none, .mv (.t 6)⟩,
         ⟨some 23, none, .mv (.t 8)⟩,
         ⟨some 24, none, .bin .mul (.t 22) (.t 23)⟩,
         ⟨some 10, none, .mv (.t 24)⟩])
       (.seq
        (.ops [⟨some 25, none, .mv (.t 7)⟩,
          ⟨some 26, none, .mv (.t 8)⟩,
          ⟨some 27, none, .bin .mul (.t 25) (.t 26)⟩,
          ⟨some 28, none, .mv (.t 10)⟩,
          ⟨some 29, none, .bin .shr (.t 28) (.k (.int .u64 32))⟩,
          ⟨some 30, none, .bin .add (.t 27) (.t 29)⟩,
          ⟨some 11, none, .mv (.t 30)⟩])
        (.keep [0, 1, 6, 7, 9, 11]
         (.seq
          (.ops [⟨some 31, none, .mv (.t 11)⟩,
            ⟨some 32, none, .bin .and (.t 31) (.k (.int .u64 4294967295))⟩,
            ⟨some 12, none, .mv (.t 32)⟩])
          (.seq
           (.ops [⟨some 33, none, .mv (.t 11)⟩,
             ⟨some 34, none, .bin .shr (.t 33) (.k (.int .u64 32))⟩,
             ⟨some 13, none, .mv (.t 34)⟩])
           (.seq
            (.ops [⟨some 35, none, .mv (.t 12)⟩,
              ⟨some 36, none, .mv (.t 6)⟩,
              ⟨some 37, none, .mv (.t 9)⟩,
              ⟨some 38, none, .bin .mul (.t 36) (.t 37)⟩,
              ⟨some 39, none, .bin .add (.t 35) (.t 38)⟩,
              ⟨some 12, none, .mv (.t 39)⟩])
            (.keep [0, 1, 7, 9, 12, 13]
             (.seq
              (.ops [⟨some 40, none, .mv (.t 7)⟩,
                ⟨some 41, none, .mv (.t 9)⟩,
                ⟨some 42, none, .bin .mul (.t 40) (.t 41)⟩,
                ⟨some 43, none, .mv (.t 13)⟩,
                ⟨some 44, none, .bin .add (.t 42) (.t 43)⟩,
                ⟨some 45, none, .mv (.t 12)⟩,
                ⟨some 46, none, .bin .shr (.t 45) (.k (.int .u64 32))⟩,
                ⟨some 47, none, .bin .add (.t 44) (.t 46)⟩,
                ⟨some 4, none, .mv (.t 47)⟩])
              (.keep [0, 1, 4]
               (.seq
                (.ops [⟨some 48, none, .mv (.t 0)⟩,
                  ⟨some 49, none, .mv (.t 1)⟩,
                  ⟨some 50, none, .bin .mul (.t 48) (.t 49)⟩,
                  ⟨some 5, none, .mv (.t 50)⟩])
                .ret))))))))))))))) }
structure N276 (R : Env) : Prop where
  o276 : R.Fn 276 c276
structure N286 (R : Env) : Prop where
  x286 : R.Xn 286 "math/bits.Sub64"
end Go.UM

namespace Go.UM
open Go.AM
def c275 : IFn := { np := 1, rs := [.t 2, .t 3], body :=
 (.seq
  (.ops [⟨some 2, none, .mv (.k (.int .u64 0))⟩,
    ⟨some 3, none, .mv (.k (.bool false))⟩])
  (.seq
   (.seq
    (.ops [⟨some 4, none, .mv (.t 0)⟩,
      ⟨some 5, none, .bin .lss (.t 4) (.k (.int .i64 0))⟩])
    (.cond (.t 5)
     (.seq
      (.ops [⟨some 6, none, .mv (.t 0)⟩,
        ⟨some 7, none, .conv .u64 (.t 6)⟩,
        ⟨some 8, none, .un .neg (.t 7)⟩,
        ⟨some 2, none, .mv (.t 8)⟩,
        ⟨some 3, none, .mv (.k (.bool true))⟩])
      (.keep [2, 3]
       .ret))
     .skip))
   (.keep [0]
    (.seq
     (.ops [⟨some 9, none, .mv (.t 0)⟩,
       ⟨some 10, none, .conv .u64 (.t 9)⟩,
       ⟨some 2, none, .mv (.t 10)⟩,
       ⟨some 3, none, .mv (.k (.bool false))⟩])
     .ret)))) }
structure N275 (R : Env) : Prop where
  o275 : R.Fn 275 c275
def c283 : IFn := { np := 2, rs := [.t 4, .t 5], body :=
 (.seq
  (.ops [⟨some 4, none, .mv (.k (.int .u64 0))⟩,
    ⟨some 5, none, .mv (.k (.int .u64 0))⟩])
  (.seq
   (.ops [⟨some 8, none, .mv (.t 1)⟩,
     ⟨some 9, none, .callx 286 [.k (.int .u64 0), .t 8, .k (.int .u64 0)]⟩,
     ⟨some 7, none, .mv (.t 9)⟩,
     ⟨some 10, none, .ext (.t 7) 0⟩,
     ⟨some 11, none, .ext (.t 7) 1⟩,
     ⟨some 1, none, .mv (.t 10)⟩,
     ⟨some 6, none, .mv (.t 11)⟩])
   (.keep [0, 1, 6]
    (.seq
     (.ops [⟨some 13, none, .mv (.t 0)⟩,
       ⟨some 14, none, .mv (.t 6)⟩,
       ⟨some 15, none, .callx 286 [.k (.int .u64 0), .t 13, .t 14]⟩,
       ⟨some 12, none, .mv (.t 15)⟩,
       ⟨some 16, none, .ext (.t 12) 0⟩,
       ⟨some 17, none, .ext (.t 12) 1⟩,
       ⟨some 0, none, .mv (.t 16)⟩])
     (.keep [0, 1]
      (.seq
       (.ops [⟨some 18, none, .mv (.t 0)⟩,
         ⟨some 19, none, .mv (.t 1)⟩,
         ⟨some 4, none, .mv (.t 18)⟩,
         ⟨some 5, none, .mv (.t 19)⟩])
       .ret)))))) }
structure N283 (R : Env) : Prop where
  o283 : R.Fn 283 c283
  n286 : N286 R
def c277 : IFn := { np := 3, rs := [.cell 6 true 2, .t 7], body :=
 (.seq
  (.ops [⟨some 6, none, .alloc 38 [.int .i64 0, .int .u64 0]⟩,
    ⟨some 7, none, .mv (.k (.bool false))⟩])
  (.seq
   (.seq
    (.ops [⟨some 9, none, .mv (.t 2)⟩])
    (.cond (.t 9)
     (.ops [⟨some 11, none, .mv (.t 0)⟩,
       ⟨some 12, none, .mv (.t 1)⟩,
       ⟨some 13, none, .call 283 [.t 11, .t 12]⟩,
       ⟨some 10, none, .mv (.t 13)⟩,
       ⟨some 14, none, .ext (.t 10) 0⟩,
       ⟨some 15, none, .ext (.t 10) 1⟩,
       ⟨some 0, none, .mv (.t 14)⟩,
       ⟨some 1, none, .mv (.t 15)⟩])
     .skip))
   (.keep [0, 1, 2, 6]
    (.seq
     (.ops [⟨some 16, none, .mv (.t 0)⟩,
       ⟨some 17, none, .conv .i64 (.t 16)⟩,
       ⟨some 18, none, .mv (.t 1)⟩,
       ⟨some 19, none, .build [.int .i64 0, .int .u64 0] [(0, 1, .t 17), (1, 1, .t 18)]⟩,
       ⟨some 8, none, .alloc 38 [.int .i64 0, .int .u64 0]⟩,
       ⟨none, none, .store 2 (.t 8) (.t 19)⟩])
     (.keep [0, 1, 2, 6, 8]
      (.seq
       (.ops [⟨some 20, none, .load true 2 (.t 8)⟩,
         ⟨some 21, none, .fldA 0 (.t 8)⟩,
         ⟨some 22, none, .load false 1 (.t 21)⟩,
         ⟨some 23, none, .bin .lss (.t 22) (.k (.int .i64 0))⟩,
         ⟨some 24, none, .mv (.t 2)⟩,
         ⟨some 25, none, .eqb false (.t 23) (.t 24)⟩,
         ⟨some 26, none, .mv (.t 25)⟩,
         ⟨some 27, some (26, false), .mv (.t 0)⟩,
         ⟨some 28, some (26, false), .mv (.t 1)⟩,
         ⟨some 29, some (26, false), .bin .or (.t 27) (.t 28)⟩,
         ⟨some 30, some (26, false), .bin .eql (.t 29) (.k (.int .u64 0))⟩,
         ⟨some 31, none, .pick (.t 26) (.k (.bool true)) (.t 30)⟩,
         ⟨none, none, .store 2 (.t 6) (.t 20)⟩,
         ⟨some 7, none, .mv (.t 31)⟩])
       (.keep [6, 7]
        .ret))))))) }
structure N277 (R : Env) : Prop where
  o277 : R.Fn 277 c277
  n283 : N283 R
def c264 : IFn := { np := 2, rs := [.cell 4 true 2], body :=
 (.seq
  (.ops [⟨some 4, none, .alloc 38 [.int .i64 0, .int .u64 0]⟩])
  (.seq
   (.ops [⟨some 14, none, .mv (.t 0)⟩,
     ⟨some 15, none, .call 275 [.t 14]⟩,
     ⟨some 13, none, .mv (.t 15)⟩,
     ⟨some 16, none, .ext (.t 13) 0⟩,
     ⟨some 17, none, .ext (.t 13) 1⟩,
     ⟨some 5, none, .mv (.t 16)⟩,
     ⟨some 6, none, .mv (.t 17)⟩])
   (.keep [1, 4, 5, 6]
    (.seq
     (.ops [⟨some 19, none, .mv (.t 1)⟩,
       ⟨some 20, none, .call 275 [.t 19]⟩,
       ⟨some 18, none, .mv (.t 20)⟩,
       ⟨some 21, none, .ext (.t 18) 0⟩,
       ⟨some 22, none, .ext (.t 18) 1⟩,
       ⟨some 7, none, .mv (.t 21)⟩,
       ⟨some 8, none, .mv (.t 22)⟩])
     (.keep [4, 5, 6, 7, 8]
      (.seq
       (.ops [⟨some 24, none, .mv (.t 5)⟩,
         ⟨some 25, none, .mv (.t 7)⟩,
         ⟨some 26, none, .call 276 [.t 24, .t 25]⟩,
         ⟨some 23, none, .mv (.t 26)⟩,
         ⟨some 27, none, .ext (.t 23) 0⟩,
         ⟨some 28, none, .ext (.t 23) 1⟩,
         ⟨some 9, none, .mv (.t 27)⟩,
         ⟨some 10, none, .mv (.t 28)⟩])
       (.keep [4, 6, 8, 9, 10]
        (.seq
         (.ops [⟨some 30, none, .mv (.t 9)⟩,
           ⟨some 31, none, .mv (.t 10)⟩,
           ⟨some 32, none, .mv (.t 6)⟩,
           ⟨some 33, none, .mv (.t 8)⟩,
           ⟨some 34, none, .eqb true (.t 32) (.t 33)⟩,
           ⟨some 35, none, .call 277 [.t 30, .t 31, .t 34]⟩,
           ⟨some 29, none, .mv (.t 35)⟩,
           ⟨some 36, none, .ext (.t 29) 0⟩,
           ⟨some 37, none, .ext (.t 29) 1⟩,
           ⟨some 11, none, .alloc 38 [.int .i64 0, .int .u64 0]⟩,
           ⟨none, none, .store 2 (.t 11) (.t 36)⟩,
           ⟨some 12, none, .mv (.t 37)⟩])
         (.keep [4, 11]
          (.seq
           (.ops [⟨some 38, none, .load true 2 (.t 11)⟩,
             ⟨none, none, .store 2 (.t 4) (.t 38)⟩])
           .ret)))))))))) }
structure N264 (R : Env) : Prop where
  o264 : R.Fn 264 c264
  n275 : N275 R
  n276 : N276 R
  n277 : N277 R
def c274 : IFn := { np := 1, rs := [.t 2, .t 3], body :=
 (.seq
  (.ops [⟨some 1, none, .box 38 (.t 0)⟩,
    ⟨some 2, none, .mv (.k (.int .i64 0))⟩,
    ⟨some 3, none, .mv (.k (.bool false))⟩])
  (.seq
   (.seq
    (.ops [⟨some 4, none, .fldA 1 (.t 1)⟩,
      ⟨some 5, none, .load false 1 (.t 4)⟩,
      ⟨some 6, none, .conv .i64 (.t 5)⟩,
      ⟨some 2, none, .mv (.t 6)⟩])
    (.seq
     (.ops [⟨some 7, none, .fldA 0 (.t 1)⟩,
       ⟨some 8, none, .load false 1 (.t 7)⟩,
       ⟨some 9, none, .mv (.t 2)⟩,
       ⟨some 10, none, .bin .shr (.t 9) (.k (.int .u64 63))⟩,
       ⟨some 11, none, .bin .neq (.t 8) (.t 10)⟩])
     (.keep [2, 11]
      (.cond (.t 11)
       (.seq
        (.ops [⟨some 2, none, .mv (.k (.int .i64 0))⟩,
          ⟨some 3, none, .mv (.k (.bool false))⟩])
        .ret)
       .skip))))
   (.keep [2]
    (.seq
     (.ops [⟨some 12, none, .mv (.t 2)⟩,
       ⟨some 2, none, .mv (.t 12)⟩,
       ⟨some 3, none, .mv (.k (.bool true))⟩])
     .ret)))) }
structure N274 (R : Env) : Prop where
  o274 : R.Fn 274 c274
def c287 : IFn := { np := 1, rs := [.cell 2 true 2], body :=
 (.seq
  (.ops [⟨some 2, none, .alloc 38 [.int .i64 0, .int .u64 0]⟩])
  (.seq
   (.ops [⟨some 3, none, .mv (.t 0)⟩,
     ⟨some 4, none, .bin .shr (.t 3) (.k (.int .u64 63))⟩,
     ⟨some 5, none, .mv (.t 0)⟩,
     ⟨some 6, none, .conv .u64 (.t 5)⟩,
     ⟨some 7, none, .build [.int .i64 0, .int .u64 0] [(0, 1, .t 4), (1, 1, .t 6)]⟩,
     ⟨none, none, .store 2 (.t 2) (.t 7)⟩])
   (.keep [2]
    .ret))) }
structure N287 (R : Env) : Prop where
  o287 : R.Fn 287 c287
def c285 : IFn := { np := 2, rs := [.cell 4 true 2], body :=
 (.seq
  (.ops [⟨some 2, none, .box 38 (.t 0)⟩,
    ⟨some 4, none, .alloc 38 [.int .i64 0, .int .u64 0]⟩])
  (.seq
   (.ops [⟨some 5, none, .mv (.t 1)⟩,
     ⟨some 6, none, .mm true [.t 5, .k (.int .i64 0)]⟩,
     ⟨some 1, none, .mv (.t 6)⟩])
   (.seq
    (.seq
     (.ops [⟨some 7, none, .mv (.t 1)⟩,
       ⟨some 8, none, .bin .geq (.t 7) (.k (.int .i64 64))⟩])
     (.cond (.t 8)
      (.seq
       (.ops [⟨some 9, none, .fldA 0 (.t 2)⟩,
         ⟨some 10, none, .load false 1 (.t 9)⟩,
         ⟨some 11, none, .mv (.t 1)⟩,
         ⟨some 12, none, .bin .sub (.t 11) (.k (.int .i64 64))⟩,
         ⟨some 13, none, .mm false [.t 12, .k (.int .i64 63)]⟩,
         ⟨some 14, none, .bin .shr (.t 10) (.t 13)⟩,
         ⟨some 15, none, .call 287 [.t 14]⟩,
         ⟨none, none, .store 2 (.t 4) (.t 15)⟩])
       (.keep [4]
        .ret))
      .skip))
    (.keep [1, 2, 4]
     (.seq
      (.seq
       (.ops [⟨some 16, none, .mv (.t 1)⟩,
         ⟨some 17, none, .bin .eql (.t 16) (.k (.int .i64 0))⟩])
       (.cond (.t 17)
        (.seq
         (.ops [⟨some 18, none, .load true 2 (.t 2)⟩,
           ⟨none, none, .store 2 (.t 4) (.t 18)⟩])
         .ret)
        .skip))
      (.keep [1, 2, 4]
       (.seq
        (.draw [0, 1, 0, 7, 0, 16, 0, 112, 0, 256, 768, 0, 2048, 7936, 16368, 32767, 65535] [[2], [19], [1], [20, 21], [2], [23], [1], [24, 25], [2], [27], [28], [1], [30], [29, 31], [26, 32], [22, 33], [4, 34]] [⟨some 19, none, .fldA 0 (.t 2)⟩,
          ⟨some 20, none, .load false 1 (.t 19)⟩,
          ⟨some 21, none, .mv (.t 1)⟩,
          ⟨some 22, none, .bin .shr (.t 20) (.t 21)⟩,
          ⟨some 23, none, .fldA 1 (.t 2)⟩,
          ⟨some 24, none, .load false 1 (.t 23)⟩,
          ⟨some 25, none, .mv (.t 1)⟩,
          ⟨some 26, none, .bin .shr (.t 24) (.t 25)⟩,
          ⟨some 27, none, .fldA 0 (.t 2)⟩,
          ⟨some 28, none, .load false 1 (.t 27)⟩,
          ⟨some 29, none, .conv .u64 (.t 28)⟩,
          ⟨some 30, none, .mv (.t 1)⟩,
          ⟨some 31, none, .bin .sub (.k (.int .i64 64)) (.t 30)⟩,
          ⟨some 32, none, .bin .shl (.t 29) (.t 31)⟩,
          ⟨some 33, none, .bin .or (.t 26) (.t 32)⟩,
          ⟨some 34, none, .build [.int .i64 0, .int .u64 0] [(0, 1, .t 22), (1, 1, .t 33)]⟩,
          ⟨none, none, .store 2 (.t 4) (.t 34)⟩])
        (.keep [4]
         .ret)))))))) }
structure N285 (R : Env) : Prop where
  o285 : R.Fn 285 c285
  n287 : N287 R
end Go.UM

namespace Go.UM
open Go.AM
def c265 : IFn := { np := 1, rs := [.t 2], body :=
 (.seq
  (.ops [⟨some 1, none, .box 38 (.t 0)⟩,
    ⟨some 2, none, .mv (.k (.int .i64 0))⟩])
  (.seq
   (.seq
    (.ops [⟨some 6, none, .load true 2 (.t 1)⟩,
      ⟨some 7, none, .call 274 [.t 6]⟩,
      ⟨some 5, none, .mv (.t 7)⟩,
      ⟨some 8, none, .ext (.t 5) 0⟩,
      ⟨some 9, none, .ext (.t 5) 1⟩,
      ⟨some 3, none, .mv (.t 8)⟩,
      ⟨some 4, none, .mv (.t 9)⟩])
    (.keep [1, 3, 4]
     (.seq
      (.ops [⟨some 10, none, .mv (.t 4)⟩])
      (.cond (.t 10)
       (.seq
        (.ops [⟨some 11, none, .mv (.t 3)⟩,
          ⟨some 2, none, .mv (.t 11)⟩])
        .ret)
       .skip))))
   (.keep [1]
    (.seq
     (.seq
      (.ops [⟨some 12, none, .fldA 0 (.t 1)⟩,
        ⟨some 13, none, .load false 1 (.t 12)⟩,
        ⟨some 14, none, .bin .lss (.t 13) (.k (.int .i64 0))⟩])
      (.cond (.t 14)
       (.seq
        (.ops [⟨some 2, none, .mv (.k (.int .i64 (-9223372036854775808)))⟩])
        .ret)
       .skip))
     (.keep []
      (.seq
       (.ops [⟨some 2, none, .mv (.k (.int .i64 9223372036854775807))⟩])
       .ret)))))) }
structure N265 (R : Env) : Prop where
  o265 : R.Fn 265 c265
  n274 : N274 R
def c284 : IFn := { np := 1, rs := [.t 2], body :=
 (.seq
  (.ops [⟨some 2, none, .mv (.k (.int .i64 0))⟩])
  (.seq
   (.ops [⟨some 3, none, .mv (.k (.int .i64 4294967296))⟩])
   (.seq
    (.seq
     (.ops [⟨some 6, none, .mv (.t 0)⟩,
       ⟨some 7, none, .lenS (.t 6)⟩,
       ⟨some 8, none, .mv (.k (.int .i64 0))⟩])
     (.keep [3, 6, 7, 8]
      (.block 0
       (.loop
        (.seq
         (.ops [⟨some 9, none, .bin .lss (.t 8) (.t 7)⟩])
         (.seq
          (.cond (.t 9)
           .skip
           (.exit 0))
          (.keep [3, 6, 7, 8]
           (.seq
            (.block 1
             (.seq
              (.ops [⟨some 10, none, .mv (.t 8)⟩,
                ⟨some 11, none, .idxS 1 (.t 6) (.t 8)⟩,
                ⟨some 12, none, .load false 1 (.t 11)⟩,
                ⟨some 4, none, .mv (.t 10)⟩,
                ⟨some 5, none, .mv (.t 12)⟩])
              (.keep [3, 4, 5, 6, 7, 8]
               (.seq
                (.seq
                 (.ops [⟨some 13, none, .mv (.t 4)⟩,
                   ⟨some 14, none, .bin .eql (.t 13) (.k (.int .i64 0))⟩])
                 (.cond (.t 14)
                  (.seq
                   (.ops [⟨some 15, none, .mv (.t 5)⟩,
                     ⟨some 3, none, .mv (.t 15)⟩])
                   (.exit 1))
                  .skip))
                (.keep [3, 5, 6, 7, 8]
                 (.ops [⟨some 16, none, .mv (.t 3)⟩,
                   ⟨some 17, none, .mv (.t 5)⟩,
                   ⟨some 18, none, .call 264 [.t 16, .t 17]⟩,
                   ⟨some 19, none, .call 285 [.t 18, .k (.int .i64 32)]⟩,
                   ⟨some 20, none, .call 265 [.t 19]⟩,
                   ⟨some 3, none, .mv (.t 20)⟩]))))))
            (.keep [3, 6, 7, 8]
             (.ops [⟨some 21, none, .bin .add (.t 8) (.k (.int .i64 1))⟩,
               ⟨some 8, none, .mv (.t 21)⟩]))))))))))
    (.keep [3]
     (.seq
      (.ops [⟨some 22, none, .mv (.t 3)⟩,
        ⟨some 2, none, .mv (.t 22)⟩])
      .ret))))) }
structure N284 (R : Env) : Prop where
  o284 : R.Fn 284 c284
  n264 : N264 R
  n265 : N265 R
  n285 : N285 R
def c267 : IFn := { np := 1, rs := [.t 2], body :=
 (.seq
  (.ops [⟨some 2, none, .mv (.k (.int .i64 0))⟩])
  (.seq
   (.ops [⟨some 3, none, .mv (.k (.int .i64 0))⟩])
   (.seq
    (.seq
     (.ops [⟨some 7, none, .mv (.t 0)⟩,
       ⟨some 8, none, .lenS (.t 7)⟩,
       ⟨some 9, none, .mv (.k (.int .i64 0))⟩])
     (.keep [3, 7, 8, 9]
      (.block 0
       (.loop
        (.seq
         (.ops [⟨some 10, none, .bin .lss (.t 9) (.t 8)⟩])
         (.seq
          (.cond (.t 10)
           .skip
           (.exit 0))
          (.keep [3, 7, 8, 9]
           (.seq
            (.block 1
             (.seq
              (.ops [⟨some 11, none, .idxS 1 (.t 7) (.t 9)⟩,
                ⟨some 12, none, .load false 1 (.t 11)⟩,
                ⟨some 5, none, .mv (.t 12)⟩])
              (.seq
               (.ops [⟨some 13, none, .mv (.t 3)⟩,
                 ⟨some 14, none, .mv (.t 5)⟩,
                 ⟨some 15, none, .bin .add (.t 13) (.t 14)⟩,
                 ⟨some 6, none, .mv (.t 15)⟩])
               (.seq
                (.block 2
                 (.seq
                  (.ops [⟨some 17, none, .mv (.t 3)⟩,
                    ⟨some 18, none, .bin .gtr (.t 17) (.k (.int .i64 0))⟩,
                    ⟨some 19, none, .mv (.t 18)⟩,
                    ⟨some 20, some (19, true), .mv (.t 5)⟩,
                    ⟨some 21, some (19, true), .bin .gtr (.t 20) (.k (.int .i64 0))⟩,
                    ⟨some 22, none, .pick (.t 19) (.t 21) (.k (.bool false))⟩,
                    ⟨some 23, none, .mv (.t 22)⟩,
                    ⟨some 24, some (23, true), .mv (.t 6)⟩,
                    ⟨some 25, some (23, true), .bin .lss (.t 24) (.k (.int .i64 0))⟩,
                    ⟨some 26, none, .pick (.t 23) (.t 25) (.k (.bool false))⟩,
                    ⟨some 16, none, .mv (.t 26)⟩])
                  (.keep [3, 5, 6, 7, 8, 9, 16]
                   (.cond (.t 16)
                    (.ops [⟨some 6, none, .mv (.k (.int .i64 9223372036854775807))⟩])
                    (.seq
                     (.ops [⟨some 28, none, .mv (.t 3)⟩,
                       ⟨some 29, none, .bin .lss (.t 28) (.k (.int .i64 0))⟩,
                       ⟨some 30, none, .mv (.t 29)⟩,
                       ⟨some 31, some (30, true), .mv (.t 5)⟩,
                       ⟨some 32, some (30, true), .bin .lss (.t 31) (.k (.int .i64 0))⟩,
                       ⟨some 33, none, .pick (.t 30) (.t 32) (.k (.bool false))⟩,
                       ⟨some 34, none, .mv (.t 33)⟩,
                       ⟨some 35, some (34, true), .mv (.t 6)⟩,
                       ⟨some 36, some (34, true), .bin .geq (.t 35) (.k (.int .i64 0))⟩,
                       ⟨some 37, none, .pick (.t 34) (.t 36) (.k (.bool false))⟩,
                       ⟨some 27, none, .mv (.t 37)⟩])
                     (.keep [6, 7, 8, 9, 27]
                      (.cond (.t 27)
                       (.ops [⟨some 6, none, .mv (.k (.int .i64 (-9223372036854775808)))⟩])
                       .skip)))))))
                (.keep [6, 7, 8, 9]
                 (.ops [⟨some 38, none, .mv (.t 6)⟩,
                   ⟨some 3, none, .mv (.t 38)⟩]))))))
            (.keep [3, 7, 8, 9]
             (.ops [⟨some 39, none, .bin .add (.t 9) (.k (.int .i64 1))⟩,
               ⟨some 9, none, .mv (.t 39)⟩]))))))))))
    (.keep [3]
     (.seq
      (.ops [⟨some 40, none, .mv (.t 3)⟩,
        ⟨some 2, none, .mv (.t 40)⟩])
      .ret))))) }
structure N267 (R : Env) : Prop where
  o267 : R.Fn 267 c267
def c281 : IFn := { np := 2, rs := [.t 4], body :=
 (.seq
  (.ops [⟨some 4, none, .mv (.k (.int .i64 0))⟩])
  (.seq
   (.ops [⟨some 6, none, .mv (.t 0)⟩,
     ⟨some 7, none, .mv (.t 1)⟩,
     ⟨some 8, none, .bin .sub (.t 6) (.t 7)⟩,
     ⟨some 5, none, .mv (.t 8)⟩])
   (.seq
    (.block 0
     (.seq
      (.ops [⟨some 10, none, .mv (.t 0)⟩,
        ⟨some 11, none, .bin .geq (.t 10) (.k (.int .i64 0))⟩,
        ⟨some 12, none, .mv (.t 11)⟩,
        ⟨some 13, some (12, true), .mv (.t 1)⟩,
        ⟨some 14, some (12, true), .bin .lss (.t 13) (.k (.int .i64 0))⟩,
        ⟨some 15, none, .pick (.t 12) (.t 14) (.k (.bool false))⟩,
        ⟨some 16, none, .mv (.t 15)⟩,
        ⟨some 17, some (16, true), .mv (.t 5)⟩,
        ⟨some 18, some (16, true), .bin .lss (.t 17) (.k (.int .i64 0))⟩,
        ⟨some 19, none, .pick (.t 16) (.t 18) (.k (.bool false))⟩,
        ⟨some 9, none, .mv (.t 19)⟩])
      (.keep [0, 1, 5, 9]
       (.cond (.t 9)
        (.seq
         (.ops [⟨some 4, none, .mv (.k (.int .i64 9223372036854775807))⟩])
         .ret)
        (.seq
         (.ops [⟨some 21, none, .mv (.t 0)⟩,
           ⟨some 22, none, .bin .lss (.t 21) (.k (.int .i64 0))⟩,
           ⟨some 23, none, .mv (.t 22)⟩,
           ⟨some 24, some (23, true), .mv (.t 1)⟩,
           ⟨some 25, some (23, true), .bin .gtr (.t 24) (.k (.int .i64 0))⟩,
           ⟨some 26, none, .pick (.t 23) (.t 25) (.k (.bool false))⟩,
           ⟨some 27, none, .mv (.t 26)⟩,
           ⟨some 28, some (27, true), .mv (.t 5)⟩,
           ⟨some 29, some (27, true), .bin .geq (.t 28) (.k (.int .i64 0))⟩,
           ⟨some 30, none, .pick (.t 27) (.t 29) (.k (.bool false))⟩,
           ⟨some 20, none, .mv (.t 30)⟩])
         (.keep [5, 20]
          (.cond (.t 20)
           (.seq
            (.ops [⟨some 4, none, .mv (.k (.int .i64 (-9223372036854775808)))⟩])
            .ret)
           .skip)))))))
    (.keep [5]
     (.seq
      (.ops [⟨some 31, none, .mv (.t 5)⟩,
        ⟨some 4, none, .mv (.t 31)⟩])
      .ret))))) }
structure N281 (R : Env) : Prop where
  o281 : R.Fn 281 c281
def c270 : IFn := { np := 1, rs := [.t 2], body :=
 (.seq
  (.ops [⟨some 2, none, .mv (.k (.int .i64 0))⟩])
  (.seq
   (.ops [⟨some 3, none, .mv (.t 0)⟩,
     ⟨some 4, none, .call 281 [.k (.int .i64 0), .t 3]⟩,
     ⟨some 2, none, .mv (.t 4)⟩])
   .ret)) }
structure N270 (R : Env) : Prop where
  o270 : R.Fn 270 c270
  n281 : N281 R
def c255 : IFn := { np := 1, rs := [.t 2], body :=
 (.seq
  (.ops [⟨some 2, none, .mv (.k (.int .i64 0))⟩])
  (.seq
   (.ops [⟨some 3, none, .mv (.t 0)⟩,
     ⟨some 4, none, .mv (.t 0)⟩,
     ⟨some 5, none, .call 270 [.t 4]⟩,
     ⟨some 6, none, .mm true [.t 3, .t 5]⟩,
     ⟨some 2, none, .mv (.t 6)⟩])
   (.keep [2]
    .ret))) }
structure N255 (R : Env) : Prop where
  o255 : R.Fn 255 c255
  n270 : N270 R
def c248 : IFn := { np := 1, rs := [.t 2], body :=
 (.seq
  (.ops [⟨some 2, none, .mv (.k (.int .i64 0))⟩])
  (.seq
   (.ops [⟨some 3, none, .mv (.t 0)⟩,
     ⟨some 4, none, .call 264 [.t 3, .k (.int .i64 4294967296)]⟩,
     ⟨some 5, none, .call 265 [.t 4]⟩,
     ⟨some 2, none, .mv (.t 5)⟩])
   .ret)) }
structure N248 (R : Env) : Prop where
  o248 : R.Fn 248 c248
  n264 : N264 R
  n265 : N265 R
end Go.UM

namespace Go.UM
open Go.AM
def c262 : IFn := { np := 3, rs := [.cell 6 true 3], body :=
 (.seq
  (.ops [⟨some 3, none, .box 31 (.t 0)⟩,
    ⟨some 4, none, .box 31 (.t 1)⟩,
    ⟨some 6, none, .alloc 31 [.int .i64 0, .int .i64 0, .int .i64 0]⟩])
  (.seq
   (.draw [0, 0, 2, 0, 8, 31, 0, 0, 128, 0, 512, 2047, 0, 0, 8192, 0, 32768, 131071, 262143, 524287] [[2], [3], [8], [4], [10], [7, 9, 11], [2], [3], [14], [4], [16], [13, 15, 17], [2], [3], [20], [4], [22], [19, 21, 23], [12, 18, 24], [6, 25]] [⟨some 7, none, .mv (.t 2)⟩,
     ⟨some 8, none, .fldA 0 (.t 3)⟩,
     ⟨some 9, none, .load false 1 (.t 8)⟩,
     ⟨some 10, none, .fldA 0 (.t 4)⟩,
     ⟨some 11, none, .load false 1 (.t 10)⟩,
     ⟨some 12, none, .callv (.t 7) [.t 9, .t 11]⟩,
     ⟨some 13, none, .mv (.t 2)⟩,
     ⟨some 14, none, .fldA 1 (.t 3)⟩,
     ⟨some 15, none, .load false 1 (.t 14)⟩,
     ⟨some 16, none, .fldA 1 (.t 4)⟩,
     ⟨some 17, none, .load false 1 (.t 16)⟩,
     ⟨some 18, none, .callv (.t 13) [.t 15, .t 17]⟩,
     ⟨some 19, none, .mv (.t 2)⟩,
     ⟨some 20, none, .fldA 2 (.t 3)⟩,
     ⟨some 21, none, .load false 1 (.t 20)⟩,
     ⟨some 22, none, .fldA 2 (.t 4)⟩,
     ⟨some 23, none, .load false 1 (.t 22)⟩,
     ⟨some 24, none, .callv (.t 19) [.t 21, .t 23]⟩,
     ⟨some 25, none, .build [.int .i64 0, .int .i64 0, .int .i64 0] [(0, 1, .t 12), (1, 1, .t 18), (2, 1, .t 24)]⟩,
     ⟨none, none, .store 3 (.t 6) (.t 25)⟩])
   (.keep [6]
    .ret))) }
structure N262 (R : Env) : Prop where
  o262 : R.Fn 262 c262
def c278 : IFn := { np := 2, rs := [.t 4], body :=
 (.seq
  (.ops [⟨some 4, none, .mv (.k (.int .i64 0))⟩])
  (.seq
   (.ops [⟨some 5, none, .mv (.t 0)⟩,
     ⟨some 6, none, .mv (.t 1)⟩,
     ⟨some 7, none, .bslice 32 1 2 [.int .i64 0] [(0, .t 5), (1, .t 6)]⟩,
     ⟨some 8, none, .call 284 [.t 7]⟩,
     ⟨some 4, none, .mv (.t 8)⟩])
   (.keep [4]
    .ret))) }
structure N278 (R : Env) : Prop where
  o278 : R.Fn 278 c278
  n284 : N284 R
def c266 : IFn := { np := 1, rs := [.cell 2 true 3], body :=
 (.seq
  (.ops [⟨some 2, none, .alloc 31 [.int .i64 0, .int .i64 0, .int .i64 0]⟩])
  (.seq
   (.ops [⟨some 6, none, .build [.int .i64 0, .int .i64 0, .int .i64 0] [(0, 1, .k (.int .i64 4294967296)), (1, 1, .k (.int .i64 4294967296)), (2, 1, .k (.int .i64 4294967296))]⟩,
     ⟨some 3, none, .alloc 31 [.int .i64 0, .int .i64 0, .int .i64 0]⟩,
     ⟨none, none, .store 3 (.t 3) (.t 6)⟩])
   (.seq
    (.seq
     (.ops [⟨some 7, none, .mv (.t 0)⟩,
       ⟨some 8, none, .lenS (.t 7)⟩,
       ⟨some 9, none, .mv (.k (.int .i64 0))⟩])
     (.keep [2, 3, 7, 8, 9]
      (.block 0
       (.loop
        (.seq
         (.ops [⟨some 10, none, .bin .lss (.t 9) (.t 8)⟩])
         (.seq
          (.cond (.t 10)
           .skip
           (.exit 0))
          (.keep [2, 3, 7, 8, 9]
           (.seq
            (.block 1
             (.seq
              (.ops [⟨some 11, none, .idxS 3 (.t 7) (.t 9)⟩,
                ⟨some 12, none, .load true 3 (.t 11)⟩,
                ⟨some 5, none, .alloc 31 [.int .i64 0, .int .i64 0, .int .i64 0]⟩,
                ⟨none, none, .store 3 (.t 5) (.t 12)⟩])
              (.ops [⟨some 13, none, .load true 3 (.t 3)⟩,
                ⟨some 14, none, .load true 3 (.t 5)⟩,
                ⟨some 15, none, .call 262 [.t 13, .t 14, .f 278]⟩,
                ⟨none, none, .store 3 (.t 3) (.t 15)⟩])))
            (.keep [2, 3, 7, 8, 9]
             (.ops [⟨some 16, none, .bin .add (.t 9) (.k (.int .i64 1))⟩,
               ⟨some 9, none, .mv (.t 16)⟩]))))))))))
    (.keep [2, 3]
     (.seq
      (.ops [⟨some 17, none, .load true 3 (.t 3)⟩,
        ⟨none, none, .store 3 (.t 2) (.t 17)⟩])
      .ret))))) }
structure N266 (R : Env) : Prop where
  o266 : R.Fn 266 c266
  n262 : N262 R
  n278 : N278 R
def c252 : IFn := { np := 2, rs := [.t 4], body :=
 (.seq
  (.ops [⟨some 2, none, .box 31 (.t 0)⟩,
    ⟨some 3, none, .box 31 (.t 1)⟩,
    ⟨some 4, none, .mv (.k (.int .i64 0))⟩])
  (.seq
   (.ops [⟨some 6, none, .load true 3 (.t 2)⟩,
     ⟨some 7, none, .load true 3 (.t 3)⟩,
     ⟨some 8, none, .bslice 31 3 2 [.int .i64 0, .int .i64 0, .int .i64 0] [(0, .t 6), (1, .t 7)]⟩,
     ⟨some 9, none, .call 266 [.t 8]⟩,
     ⟨some 5, none, .alloc 31 [.int .i64 0, .int .i64 0, .int .i64 0]⟩,
     ⟨none, none, .store 3 (.t 5) (.t 9)⟩])
   (.keep [5]
    (.seq
     (.ops [⟨some 10, none, .fldA 0 (.t 5)⟩,
       ⟨some 11, none, .load false 1 (.t 10)⟩,
       ⟨some 12, none, .fldA 1 (.t 5)⟩,
       ⟨some 13, none, .load false 1 (.t 12)⟩,
       ⟨some 14, none, .fldA 2 (.t 5)⟩,
       ⟨some 15, none, .load false 1 (.t 14)⟩,
       ⟨some 16, none, .bslice 32 1 3 [.int .i64 0] [(0, .t 11), (1, .t 13), (2, .t 15)]⟩,
       ⟨some 17, none, .call 267 [.t 16]⟩,
       ⟨some 4, none, .mv (.t 17)⟩])
     (.keep [4]
      .ret))))) }
structure N252 (R : Env) : Prop where
  o252 : R.Fn 252 c252
  n266 : N266 R
  n267 : N267 R
def c263 : IFn := { np := 2, rs := [.t 4], body :=
 (.seq
  (.ops [⟨some 4, none, .mv (.k (.int .i64 0))⟩])
  (.seq
   (.ops [⟨some 5, none, .mv (.t 0)⟩,
     ⟨some 6, none, .mv (.t 1)⟩,
     ⟨some 7, none, .bslice 32 1 2 [.int .i64 0] [(0, .t 5), (1, .t 6)]⟩,
     ⟨some 8, none, .call 267 [.t 7]⟩,
     ⟨some 4, none, .mv (.t 8)⟩])
   (.keep [4]
    .ret))) }
structure N263 (R : Env) : Prop where
  o263 : R.Fn 263 c263
  n267 : N267 R
def c246 : IFn := { np := 1, rs := [.cell 2 true 3], body :=
 (.seq
  (.ops [⟨some 2, none, .alloc 31 [.int .i64 0, .int .i64 0, .int .i64 0]⟩])
  (.seq
   (.ops [⟨some 3, none, .alloc 31 [.int .i64 0, .int .i64 0, .int .i64 0]⟩])
   (.seq
    (.seq
     (.ops [⟨some 6, none, .mv (.t 0)⟩,
       ⟨some 7, none, .lenS (.t 6)⟩,
       ⟨some 8, none, .mv (.k (.int .i64 0))⟩])
     (.keep [2, 3, 6, 7, 8]
      (.block 0
       (.loop
        (.seq
         (.ops [⟨some 9, none, .bin .lss (.t 8) (.t 7)⟩])
         (.seq
          (.cond (.t 9)
           .skip
           (.exit 0))
          (.keep [2, 3, 6, 7, 8]
           (.seq
            (.block 1
             (.seq
              (.ops [⟨some 10, none, .idxS 3 (.t 6) (.t 8)⟩,
                ⟨some 11, none, .load true 3 (.t 10)⟩,
                ⟨some 5, none, .alloc 31 [.int .i64 0, .int .i64 0, .int .i64 0]⟩,
                ⟨none, none, .store 3 (.t 5) (.t 11)⟩])
              (.ops [⟨some 12, none, .load true 3 (.t 3)⟩,
                ⟨some 13, none, .load true 3 (.t 5)⟩,
                ⟨some 14, none, .call 262 [.t 12, .t 13, .f 263]⟩,
                ⟨none, none, .store 3 (.t 3) (.t 14)⟩])))
            (.keep [2, 3, 6, 7, 8]
             (.ops [⟨some 15, none, .bin .add (.t 8) (.k (.int .i64 1))⟩,
               ⟨some 8, none, .mv (.t 15)⟩]))))))))))
    (.keep [2, 3]
     (.seq
      (.ops [⟨some 16, none, .load true 3 (.t 3)⟩,
        ⟨none, none, .store 3 (.t 2) (.t 16)⟩])
      .ret))))) }
structure N246 (R : Env) : Prop where
  o246 : R.Fn 246 c246
  n262 : N262 R
  n263 : N263 R
def c256 : IFn := { np := 1, rs := [.t 2], body :=
 (.seq
  (.ops [⟨some 1, none, .box 31 (.t 0)⟩,
    ⟨some 2, none, .mv (.k (.int .i64 0))⟩])
  (.seq
   (.draw [0, 1, 3, 0, 8, 31, 0, 64, 255, 511, 1023] [[1], [3], [4], [1], [6], [7], [1], [9], [10], [5, 8, 11], [12]] [⟨some 3, none, .fldA 0 (.t 1)⟩,
     ⟨some 4, none, .load false 1 (.t 3)⟩,
     ⟨some 5, none, .call 255 [.t 4]⟩,
     ⟨some 6, none, .fldA 1 (.t 1)⟩,
     ⟨some 7, none, .load false 1 (.t 6)⟩,
     ⟨some 8, none, .call 255 [.t 7]⟩,
     ⟨some 9, none, .fldA 2 (.t 1)⟩,
     ⟨some 10, none, .load false 1 (.t 9)⟩,
     ⟨some 11, none, .call 255 [.t 10]⟩,
     ⟨some 12, none, .mm true [.t 5, .t 8, .t 11]⟩,
     ⟨some 2, none, .mv (.t 12)⟩])
   (.keep [2]
    .ret))) }
structure N256 (R : Env) : Prop where
  o256 : R.Fn 256 c256
  n255 : N255 R
def c249 : IFn := { np := 1, rs := [.cell 2 true 3], body :=
 (.seq
  (.ops [⟨some 1, none, .box 26 (.t 0)⟩,
    ⟨some 2, none, .alloc 31 [.int .i64 0, .int .i64 0, .int .i64 0]⟩])
  (.seq
   (.draw [0, 1, 3, 0, 8, 31, 0, 64, 255, 511, 1023] [[1], [3], [4], [1], [6], [7], [1], [9], [10], [5, 8, 11], [2, 12]] [⟨some 3, none, .fldA 0 (.t 1)⟩,
     ⟨some 4, none, .load false 1 (.t 3)⟩,
     ⟨some 5, none, .call 248 [.t 4]⟩,
     ⟨some 6, none, .fldA 1 (.t 1)⟩,
     ⟨some 7, none, .load false 1 (.t 6)⟩,
     ⟨some 8, none, .call 248 [.t 7]⟩,
     ⟨some 9, none, .fldA 2 (.t 1)⟩,
     ⟨some 10, none, .load false 1 (.t 9)⟩,
     ⟨some 11, none, .call 248 [.t 10]⟩,
     ⟨some 12, none, .build [.int .i64 0, .int .i64 0, .int .i64 0] [(0, 1, .t 5), (1, 1, .t 8), (2, 1, .t 11)]⟩,
     ⟨none, none, .store 3 (.t 2) (.t 12)⟩])
   (.keep [2]
    .ret))) }
structure N249 (R : Env) : Prop where
  o249 : R.Fn 249 c249
  n248 : N248 R
end Go.UM

namespace Go.UM
open Go.AM
def c221 : IFn := { np := 0, rs := [.cell 0 true 12], body :=
 (.seq
  (.ops [⟨some 0, none, .alloc 33 [.int .i64 0, .int .i64 0, .int .i64 0, .int .i64 0, .int .i64 0, .int .i64 0, .int .i64 0, .int .i64 0, .int .i64 0, .int .i64 0, .int .i64 0, .int .i64 0]⟩])
  (.seq
   (.ops [⟨some 1, none, .build [.int .i64 0, .int .i64 0, .int .i64 0, .int .i64 0, .int .i64 0, .int .i64 0, .int .i64 0, .int .i64 0, .int .i64 0] [(0, 1, .k (.int .i64 4294967296)), (4, 1, .k (.int .i64 4294967296)), (8, 1, .k (.int .i64 4294967296))]⟩,
     ⟨some 2, none, .build [.int .i64 0, .int .i64 0, .int .i64 0, .int .i64 0, .int .i64 0, .int .i64 0, .int .i64 0, .int .i64 0, .int .i64 0, .int .i64 0, .int .i64 0, .int .i64 0] [(0, 9, .t 1)]⟩,
     ⟨none, none, .store 12 (.t 0) (.t 2)⟩])
   .ret)) }
structure N221 (R : Env) : Prop where
  o221 : R.Fn 221 c221
def c223 : IFn := { np := 1, rs := [.cell 2 true 12], body :=
 (.seq
  (.ops [⟨some 1, none, .box 31 (.t 0)⟩,
    ⟨some 2, none, .alloc 33 [.int .i64 0, .int .i64 0, .int .i64 0, .int .i64 0, .int .i64 0, .int .i64 0, .int .i64 0, .int .i64 0, .int .i64 0, .int .i64 0, .int .i64 0, .int .i64 0]⟩])
  (.seq
   (.ops [⟨some 4, none, .call 221 []⟩,
     ⟨some 3, none, .alloc 33 [.int .i64 0, .int .i64 0, .int .i64 0, .int .i64 0, .int .i64 0, .int .i64 0, .int .i64 0, .int .i64 0, .int .i64 0, .int .i64 0, .int .i64 0, .int .i64 0]⟩,
     ⟨none, none, .store 12 (.t 3) (.t 4)⟩])
   (.seq
    (.ops [⟨some 5, none, .load true 3 (.t 1)⟩,
      ⟨some 6, none, .fldA 9 (.t 3)⟩,
      ⟨none, none, .store 3 (.t 6) (.t 5)⟩])
    (.seq
     (.ops [⟨some 7, none, .load true 12 (.t 3)⟩,
       ⟨none, none, .store 12 (.t 2) (.t 7)⟩])
     .ret)))) }
structure N223 (R : Env) : Prop where
  o223 : R.Fn 223 c223
  n221 : N221 R
def c227 : IFn := { np := 1, rs := [.cell 2 true 12], body :=
 (.seq
  (.ops [⟨some 2, none, .alloc 33 [.int .i64 0, .int .i64 0, .int .i64 0, .int .i64 0, .int .i64 0, .int .i64 0, .int .i64 0, .int .i64 0, .int .i64 0, .int .i64 0, .int .i64 0, .int .i64 0]⟩])
  (.seq
   (.ops [⟨some 6, none, .call 221 []⟩,
     ⟨some 3, none, .alloc 33 [.int .i64 0, .int .i64 0, .int .i64 0, .int .i64 0, .int .i64 0, .int .i64 0, .int .i64 0, .int .i64 0, .int .i64 0, .int .i64 0, .int .i64 0, .int .i64 0]⟩,
     ⟨none, none, .store 12 (.t 3) (.t 6)⟩])
   (.seq
    (.seq
     (.ops [⟨some 7, none, .mv (.t 0)⟩,
       ⟨some 8, none, .lenS (.t 7)⟩,
       ⟨some 9, none, .mv (.k (.int .i64 0))⟩])
     (.keep [0, 2, 3, 7, 8, 9]
      (.block 0
       (.loop
        (.seq
         (.ops [⟨some 10, none, .bin .lss (.t 9) (.t 8)⟩])
         (.seq
          (.cond (.t 10)
           .skip
           (.exit 0))
          (.keep [0, 2, 3, 7, 8, 9]
           (.seq
            (.block 1
             (.seq
              (.ops [⟨some 11, none, .mv (.t 9)⟩,
                ⟨some 12, none, .idxS 3 (.t 7) (.t 9)⟩,
                ⟨some 13, none, .load true 3 (.t 12)⟩,
                ⟨some 5, none, .alloc 31 [.int .i64 0, .int .i64 0, .int .i64 0]⟩,
                ⟨some 4, none, .mv (.t 11)⟩,
                ⟨none, none, .store 3 (.t 5) (.t 13)⟩])
              (.keep [0, 2, 3, 4, 5, 7, 8, 9]
               (.seq
                (.ops [⟨some 14, none, .mv (.t 4)⟩,
                  ⟨some 15, none, .bin .lss (.t 14) (.k (.int .i64 3))⟩])
                (.cond (.t 15)
                 (.draw [0, 0, 2, 0, 8, 0, 32, 0, 128, 0, 512, 0, 2145, 6241, 0, 31207, 63975, 0, 262143, 524287] [[4], [4], [17], [4], [19], [5], [21], [5], [23], [5], [25], [3], [27, 16], [28, 22], [3], [29, 18], [30, 24], [3], [31, 20], [32, 26]] [⟨some 16, none, .mv (.t 4)⟩,
                   ⟨some 17, none, .mv (.t 4)⟩,
                   ⟨some 18, none, .bin .add (.k (.int .i64 3)) (.t 17)⟩,
                   ⟨some 19, none, .mv (.t 4)⟩,
                   ⟨some 20, none, .bin .add (.k (.int .i64 6)) (.t 19)⟩,
                   ⟨some 21, none, .fldA 0 (.t 5)⟩,
                   ⟨some 22, none, .load false 1 (.t 21)⟩,
                   ⟨some 23, none, .fldA 1 (.t 5)⟩,
                   ⟨some 24, none, .load false 1 (.t 23)⟩,
                   ⟨some 25, none, .fldA 2 (.t 5)⟩,
                   ⟨some 26, none, .load false 1 (.t 25)⟩,
                   ⟨some 27, none, .fldA 0 (.t 3)⟩,
                   ⟨some 28, none, .idxA 9 1 (.t 27) (.t 16)⟩,
                   ⟨none, none, .store 1 (.t 28) (.t 22)⟩,
                   ⟨some 29, none, .fldA 0 (.t 3)⟩,
                   ⟨some 30, none, .idxA 9 1 (.t 29) (.t 18)⟩,
                   ⟨none, none, .store 1 (.t 30) (.t 24)⟩,
                   ⟨some 31, none, .fldA 0 (.t 3)⟩,
                   ⟨some 32, none, .idxA 9 1 (.t 31) (.t 20)⟩,
                   ⟨none, none, .store 1 (.t 32) (.t 26)⟩])
                 .skip)))))
            (.keep [0, 2, 3, 7, 8, 9]
             (.ops [⟨some 33, none, .bin .add (.t 9) (.k (.int .i64 1))⟩,
               ⟨some 9, none, .mv (.t 33)⟩]))))))))))
    (.keep [0, 2, 3]
     (.seq
      (.seq
       (.ops [⟨some 34, none, .mv (.t 0)⟩,
         ⟨some 35, none, .lenS (.t 34)⟩,
         ⟨some 36, none, .bin .gtr (.t 35) (.k (.int .i64 3))⟩])
       (.cond (.t 36)
        (.ops [⟨some 37, none, .mv (.t 0)⟩,
          ⟨some 38, none, .idxS 3 (.t 37) (.k (.int .i64 3))⟩,
          ⟨some 39, none, .load true 3 (.t 38)⟩,
          ⟨some 40, none, .fldA 9 (.t 3)⟩,
          ⟨none, none, .store 3 (.t 40) (.t 39)⟩])
        .skip))
      (.keep [2, 3]
       (.seq
        (.ops [⟨some 41, none, .load true 12 (.t 3)⟩,
          ⟨none, none, .store 12 (.t 2) (.t 41)⟩])
        .ret))))))) }
structure N227 (R : Env) : Prop where
  o227 : R.Fn 227 c227
  n221 : N221 R
def c251 : IFn := { np := 2, rs := [.cell 4 true 3], body :=
 (.seq
  (.ops [⟨some 2, none, .box 37 (.t 0)⟩,
    ⟨some 4, none, .alloc 31 [.int .i64 0, .int .i64 0, .int .i64 0]⟩])
  (.seq
   (.draw [0, 1, 3, 7, 0, 16, 48, 112, 240, 0, 512, 1536, 3584, 7680, 16383, 32767] [[1], [5], [2, 6], [7], [1], [9], [10], [2, 11], [12], [1], [14], [15], [2, 16], [17], [8, 13, 18], [4, 19]] [⟨some 5, none, .mv (.t 1)⟩,
     ⟨some 6, none, .bin .mul (.k (.int .i64 3)) (.t 5)⟩,
     ⟨some 7, none, .idxA 9 1 (.t 2) (.t 6)⟩,
     ⟨some 8, none, .load false 1 (.t 7)⟩,
     ⟨some 9, none, .mv (.t 1)⟩,
     ⟨some 10, none, .bin .mul (.k (.int .i64 3)) (.t 9)⟩,
     ⟨some 11, none, .bin .add (.t 10) (.k (.int .i64 1))⟩,
     ⟨some 12, none, .idxA 9 1 (.t 2) (.t 11)⟩,
     ⟨some 13, none, .load false 1 (.t 12)⟩,
     ⟨some 14, none, .mv (.t 1)⟩,
     ⟨some 15, none, .bin .mul (.k (.int .i64 3)) (.t 14)⟩,
     ⟨some 16, none, .bin .add (.t 15) (.k (.int .i64 2))⟩,
     ⟨some 17, none, .idxA 9 1 (.t 2) (.t 16)⟩,
     ⟨some 18, none, .load false 1 (.t 17)⟩,
     ⟨some 19, none, .build [.int .i64 0, .int .i64 0, .int .i64 0] [(0, 1, .t 8), (1, 1, .t 13), (2, 1, .t 18)]⟩,
     ⟨none, none, .store 3 (.t 4) (.t 19)⟩])
   (.keep [4]
    .ret))) }
structure N251 (R : Env) : Prop where
  o251 : R.Fn 251 c251
def c231 : IFn := { np := 2, rs := [.cell 4 true 3], body :=
 (.seq
  (.ops [⟨some 2, none, .box 33 (.t 0)⟩,
    ⟨some 3, none, .box 31 (.t 1)⟩,
    ⟨some 4, none, .alloc 31 [.int .i64 0, .int .i64 0, .int .i64 0]⟩])
  (.seq
   (.draw [0, 1, 3, 0, 15, 0, 32, 127, 0, 511, 0, 1024, 4095, 0, 16383, 32767, 65535] [[2], [5], [6], [3], [7, 8], [2], [10], [11], [3], [12, 13], [2], [15], [16], [3], [17, 18], [9, 14, 19], [4, 20]] [⟨some 5, none, .fldA 0 (.t 2)⟩,
     ⟨some 6, none, .load true 9 (.t 5)⟩,
     ⟨some 7, none, .call 251 [.t 6, .k (.int .i64 0)]⟩,
     ⟨some 8, none, .load true 3 (.t 3)⟩,
     ⟨some 9, none, .call 252 [.t 7, .t 8]⟩,
     ⟨some 10, none, .fldA 0 (.t 2)⟩,
     ⟨some 11, none, .load true 9 (.t 10)⟩,
     ⟨some 12, none, .call 251 [.t 11, .k (.int .i64 1)]⟩,
     ⟨some 13, none, .load true 3 (.t 3)⟩,
     ⟨some 14, none, .call 252 [.t 12, .t 13]⟩,
     ⟨some 15, none, .fldA 0 (.t 2)⟩,
     ⟨some 16, none, .load true 9 (.t 15)⟩,
     ⟨some 17, none, .call 251 [.t 16, .k (.int .i64 2)]⟩,
     ⟨some 18, none, .load true 3 (.t 3)⟩,
     ⟨some 19, none, .call 252 [.t 17, .t 18]⟩,
     ⟨some 20, none, .build [.int .i64 0, .int .i64 0, .int .i64 0] [(0, 1, .t 9), (1, 1, .t 14), (2, 1, .t 19)]⟩,
     ⟨none, none, .store 3 (.t 4) (.t 20)⟩])
   (.keep [4]
    .ret))) }
structure N231 (R : Env) : Prop where
  o231 : R.Fn 231 c231
  n251 : N251 R
  n252 : N252 R
def c233 : IFn := { np := 2, rs := [.cell 4 true 3], body :=
 (.seq
  (.ops [⟨some 2, none, .box 33 (.t 0)⟩,
    ⟨some 3, none, .box 31 (.t 1)⟩,
    ⟨some 4, none, .alloc 31 [.int .i64 0, .int .i64 0, .int .i64 0]⟩])
  (.seq
   (.draw [0, 0, 3, 0, 8, 31, 63, 127] [[2], [3], [5, 6], [2], [8], [7, 9], [10], [4, 11]] [⟨some 5, none, .load true 12 (.t 2)⟩,
     ⟨some 6, none, .load true 3 (.t 3)⟩,
     ⟨some 7, none, .call 231 [.t 5, .t 6]⟩,
     ⟨some 8, none, .fldA 9 (.t 2)⟩,
     ⟨some 9, none, .load true 3 (.t 8)⟩,
     ⟨some 10, none, .bslice 31 3 2 [.int .i64 0, .int .i64 0, .int .i64 0] [(0, .t 7), (1, .t 9)]⟩,
     ⟨some 11, none, .call 246 [.t 10]⟩,
     ⟨none, none, .store 3 (.t 4) (.t 11)⟩])
   (.keep [4]
    .ret))) }
structure N233 (R : Env) : Prop where
  o233 : R.Fn 233 c233
  n231 : N231 R
  n246 : N246 R
def c235 : IFn := { np := 1, rs := [.t 2], body :=
 (.seq
  (.ops [⟨some 1, none, .box 33 (.t 0)⟩,
    ⟨some 2, none, .mv (.k (.int .i64 0))⟩])
  (.seq
   (.seq
    (.ops [⟨some 5, none, .fldA 0 (.t 1)⟩,
      ⟨some 6, none, .load true 9 (.t 5)⟩,
      ⟨some 7, none, .mv (.k (.int .i64 0))⟩])
    (.keep [1, 6, 7]
     (.block 0
      (.loop
       (.seq
        (.ops [⟨some 8, none, .bin .lss (.t 7) (.k (.int .i64 9))⟩])
        (.seq
         (.cond (.t 8)
          .skip
          (.exit 0))
         (.keep [1, 6, 7]
          (.seq
           (.block 1
            (.seq
             (.ops [⟨some 9, none, .idxV false 9 1 (.t 6) (.t 7)⟩,
               ⟨some 4, none, .mv (.t 9)⟩])
             (.seq
              (.ops [⟨some 10, none, .mv (.t 4)⟩,
                ⟨some 11, none, .call 255 [.t 10]⟩,
                ⟨some 12, none, .bin .gtr (.t 11) (.k (.int .i64 1099511627776))⟩])
              (.cond (.t 12)
               (.seq
                (.ops [⟨some 2, none, .mv (.k (.int .i64 2))⟩])
                .ret)
               .skip))))
           (.keep [1, 6, 7]
            (.ops [⟨some 13, none, .bin .add (.t 7) (.k (.int .i64 1))⟩,
              ⟨some 7, none, .mv (.t 13)⟩]))))))))))
   (.keep [1]
    (.seq
     (.seq
      (.ops [⟨some 14, none, .fldA 9 (.t 1)⟩,
        ⟨some 15, none, .load true 3 (.t 14)⟩,
        ⟨some 16, none, .call 256 [.t 15]⟩,
        ⟨some 17, none, .bin .gtr (.t 16) (.k (.int .i64 562949953421312))⟩])
      (.cond (.t 17)
       (.seq
        (.ops [⟨some 2, none, .mv (.k (.int .i64 2))⟩])
        .ret)
       .skip))
     (.keep []
      (.seq
       (.ops [⟨some 2, none, .mv (.k (.int .i64 0))⟩])
       .ret)))))) }
structure N235 (R : Env) : Prop where
  o235 : R.Fn 235 c235
  n255 : N255 R
  n256 : N256 R
def c258 : IFn := { np := 2, rs := [.cell 4 true 3], body :=
 (.seq
  (.ops [⟨some 2, none, .box 37 (.t 0)⟩,
    ⟨some 4, none, .alloc 31 [.int .i64 0, .int .i64 0, .int .i64 0]⟩])
  (.seq
   (.draw [0, 1, 3, 0, 8, 24, 56, 0, 128, 384, 896, 2047, 4095] [[1], [2, 5], [6], [1], [8], [2, 9], [10], [1], [12], [2, 13], [14], [7, 11, 15], [4, 16]] [⟨some 5, none, .mv (.t 1)⟩,
     ⟨some 6, none, .idxA 9 1 (.t 2) (.t 5)⟩,
     ⟨some 7, none, .load false 1 (.t 6)⟩,
     ⟨some 8, none, .mv (.t 1)⟩,
     ⟨some 9, none, .bin .add (.k (.int .i64 3)) (.t 8)⟩,
     ⟨some 10, none, .idxA 9 1 (.t 2) (.t 9)⟩,
     ⟨some 11, none, .load false 1 (.t 10)⟩,
     ⟨some 12, none, .mv (.t 1)⟩,
     ⟨some 13, none, .bin .add (.k (.int .i64 6)) (.t 12)⟩,
     ⟨some 14, none, .idxA 9 1 (.t 2) (.t 13)⟩,
     ⟨some 15, none, .load false 1 (.t 14)⟩,
     ⟨some 16, none, .build [.int .i64 0, .int .i64 0, .int .i64 0] [(0, 1, .t 7), (1, 1, .t 11), (2, 1, .t 15)]⟩,
     ⟨none, none, .store 3 (.t 4) (.t 16)⟩])
   (.keep [4]
    .ret))) }
structure N258 (R : Env) : Prop where
  o258 : R.Fn 258 c258
def c238 : IFn := { np := 1, rs := [.cell 2 true 12], body :=
 (.seq
  (.ops [⟨some 2, none, .alloc 33 [.int .i64 0, .int .i64 0, .int .i64 0, .int .i64 0, .int .i64 0, .int .i64 0, .int .i64 0, .int .i64 0, .int .i64 0, .int .i64 0, .int .i64 0, .int .i64 0]⟩])
  (.seq
   (.ops [⟨some 6, none, .call 221 []⟩,
     ⟨some 3, none, .alloc 33 [.int .i64 0, .int .i64 0, .int .i64 0, .int .i64 0, .int .i64 0, .int .i64 0, .int .i64 0, .int .i64 0, .int .i64 0, .int .i64 0, .int .i64 0, .int .i64 0]⟩,
     ⟨none, none, .store 12 (.t 3) (.t 6)⟩])
   (.seq
    (.seq
     (.ops [⟨some 7, none, .mv (.t 0)⟩,
       ⟨some 8, none, .lenS (.t 7)⟩,
       ⟨some 9, none, .mv (.k (.int .i64 0))⟩])
     (.keep [2, 3, 7, 8, 9]
      (.block 0
       (.loop
        (.seq
         (.ops [⟨some 10, none, .bin .lss (.t 9) (.t 8)⟩])
         (.seq
          (.cond (.t 10)
           .skip
           (.exit 0))
          (.keep [2, 3, 7, 8, 9]
           (.seq
            (.block 1
             (.seq
              (.ops [⟨some 11, none, .mv (.t 9)⟩,
                ⟨some 12, none, .idxS 12 (.t 7) (.t 9)⟩,
                ⟨some 13, none, .load true 12 (.t 12)⟩,
                ⟨some 5, none, .alloc 33 [.int .i64 0, .int .i64 0, .int .i64 0, .int .i64 0, .int .i64 0, .int .i64 0, .int .i64 0, .int .i64 0, .int .i64 0, .int .i64 0, .int .i64 0, .int .i64 0]⟩,
                ⟨some 4, none, .mv (.t 11)⟩,
                ⟨none, none, .store 12 (.t 5) (.t 13)⟩])
              (.keep [2, 3, 4, 5, 7, 8, 9]
               (.seq
                (.seq
                 (.ops [⟨some 14, none, .mv (.t 4)⟩,
                   ⟨some 15, none, .bin .eql (.t 14) (.k (.int .i64 0))⟩])
                 (.cond (.t 15)
                  (.seq
                   (.ops [⟨some 16, none, .load true 12 (.t 5)⟩,
                     ⟨none, none, .store 12 (.t 3) (.t 16)⟩])
                   (.exit 1))
                  .skip))
                (.keep [2, 3, 5, 7, 8, 9]
                 (.draw [0, 0, 2, 6, 15, 0, 0, 64, 223, 511, 0, 0, 2048, 7167, 16383, 0, 0, 65536, 262143, 524287, 1048575, 2097151] [[5], [3], [18], [19], [17, 20], [5], [3], [23], [24], [22, 25], [5], [3], [28], [29], [27, 30], [5], [3], [33], [32, 34], [21, 26, 31, 35], [36], [3, 37]] [⟨some 17, none, .load true 12 (.t 5)⟩,
                   ⟨some 18, none, .fldA 0 (.t 3)⟩,
                   ⟨some 19, none, .load true 9 (.t 18)⟩,
                   ⟨some 20, none, .call 258 [.t 19, .k (.int .i64 0)]⟩,
                   ⟨some 21, none, .call 231 [.t 17, .t 20]⟩,
                   ⟨some 22, none, .load true 12 (.t 5)⟩,
                   ⟨some 23, none, .fldA 0 (.t 3)⟩,
                   ⟨some 24, none, .load true 9 (.t 23)⟩,
                   ⟨some 25, none, .call 258 [.t 24, .k (.int .i64 1)]⟩,
                   ⟨some 26, none, .call 231 [.t 22, .t 25]⟩,
                   ⟨some 27, none, .load true 12 (.t 5)⟩,
                   ⟨some 28, none, .fldA 0 (.t 3)⟩,
                   ⟨some 29, none, .load true 9 (.t 28)⟩,
                   ⟨some 30, none, .call 258 [.t 29, .k (.int .i64 2)]⟩,
                   ⟨some 31, none, .call 231 [.t 27, .t 30]⟩,
                   ⟨some 32, none, .load true 12 (.t 5)⟩,
                   ⟨some 33, none, .fldA 9 (.t 3)⟩,
                   ⟨some 34, none, .load true 3 (.t 33)⟩,
                   ⟨some 35, none, .call 233 [.t 32, .t 34]⟩,
                   ⟨some 36, none, .bslice 31 3 4 [.int .i64 0, .int .i64 0, .int .i64 0] [(0, .t 21), (1, .t 26), (2, .t 31), (3, .t 35)]⟩,
                   ⟨some 37, none, .call 227 [.t 36]⟩,
                   ⟨none, none, .store 12 (.t 3) (.t 37)⟩]))))))
            (.keep [2, 3, 7, 8, 9]
             (.ops [⟨some 38, none, .bin .add (.t 9) (.k (.int .i64 1))⟩,
               ⟨some 9, none, .mv (.t 38)⟩]))))))))))
    (.keep [2, 3]
     (.seq
      (.ops [⟨some 39, none, .load true 12 (.t 3)⟩,
        ⟨none, none, .store 12 (.t 2) (.t 39)⟩])
      .ret))))) }
structure N238 (R : Env) : Prop where
  o238 : R.Fn 238 c238
  n221 : N221 R
  n227 : N227 R
  n231 : N231 R
  n233 : N233 R
  n258 : N258 R
end Go.UM

namespace Go.UM
open Go.AM
end Go.UM

namespace Go.UM
open Go.AM
end Go.UM

namespace Go.UM
open Go.AM
end Go.UM

namespace Go.UM
open Go.AM
end Go.UM

namespace Go.UM
open Go.AM
end Go.UM

namespace Go.UM
open Go.AM
end Go.UM

namespace Go.UM
open Go.AM
def c359 : IFn := { np := 2, rs := [.t 4], body :=
 (.seq
  (.ops [⟨some 2, none, .box 43 (.t 0)⟩,
    ⟨some 4, none, .mv (.k (.int .i64 0))⟩])
  (.seq
   (.ops [⟨some 8, none, .fldA 13 (.t 2)⟩,
     ⟨some 9, none, .load false 1 (.t 8)⟩,
     ⟨some 10, none, .fldA 14 (.t 2)⟩,
     ⟨some 11, none, .load false 1 (.t 10)⟩,
     ⟨some 12, none, .fldA 15 (.t 2)⟩,
     ⟨some 13, none, .load false 1 (.t 12)⟩,
     ⟨some 14, none, .bslice 10 1 3 [.int .i64 0] [(0, .t 9), (1, .t 11), (2, .t 13)]⟩,
     ⟨some 5, none, .mv (.t 14)⟩])
   (.keep [1, 2, 5]
    (.seq
     (.seq
      (.ops [⟨some 15, none, .fldA 0 (.t 2)⟩,
        ⟨some 16, none, .load false 1 (.t 15)⟩,
        ⟨some 17, none, .bin .lss (.t 16) (.k (.int .i64 (-1)))⟩,
        ⟨some 18, none, .mv (.t 17)⟩,
        ⟨some 19, some (18, false), .fldA 0 (.t 2)⟩,
        ⟨some 20, some (18, false), .load false 1 (.t 19)⟩,
        ⟨some 21, some (18, false), .mv (.t 1)⟩,
        ⟨some 22, some (18, false), .bin .geq (.t 20) (.t 21)⟩,
        ⟨some 23, none, .pick (.t 18) (.k (.bool true)) (.t 22)⟩])
      (.keep [2, 5, 23]
       (.cond (.t 23)
        (.seq
         (.ops [⟨some 4, none, .mv (.k (.int .i64 5))⟩])
         .ret)
        .skip)))
     (.keep [2, 5]
      (.seq
       (.seq
        (.ops [⟨some 24, none, .mv (.t 5)⟩,
          ⟨some 25, none, .lenS (.t 24)⟩,
          ⟨some 26, none, .mv (.k (.int .i64 0))⟩])
        (.keep [2, 24, 25, 26]
         (.block 0
          (.loop
           (.seq
            (.ops [⟨some 27, none, .bin .lss (.t 26) (.t 25)⟩])
            (.seq
             (.cond (.t 27)
              .skip
              (.exit 0))
             (.keep [2, 24, 25, 26]
              (.seq
               (.block 1
                (.seq
                 (.ops [⟨some 28, none, .idxS 1 (.t 24) (.t 26)⟩,
                   ⟨some 29, none, .load false 1 (.t 28)⟩,
                   ⟨some 7, none, .mv (.t 29)⟩])
                 (.seq
                  (.ops [⟨some 30, none, .mv (.t 7)⟩,
                    ⟨some 31, none, .bin .lss (.t 30) (.k (.int .i64 0))⟩,
                    ⟨some 32, none, .mv (.t 31)⟩,
                    ⟨some 33, some (32, false), .mv (.t 7)⟩,
                    ⟨some 34, some (32, false), .bin .gtr (.t 33) (.k (.int .i64 65536))⟩,
                    ⟨some 35, none, .pick (.t 32) (.k (.bool true)) (.t 34)⟩,
                    ⟨some 36, none, .mv (.t 35)⟩,
                    ⟨some 37, some (36, false), .fldA 13 (.t 2)⟩,
                    ⟨some 38, some (36, false), .load false 1 (.t 37)⟩,
                    ⟨some 39, some (36, false), .bin .eql (.t 38) (.k (.int .i64 0))⟩,
                    ⟨some 40, some (36, false), .mv (.t 39)⟩,
                    ⟨some 41, some (40, true), .mv (.t 7)⟩,
                    ⟨some 42, some (40, true), .bin .neq (.t 41) (.k (.int .i64 0))⟩,
                    ⟨some 43, some (36, false), .pick (.t 40) (.t 42) (.k (.bool false))⟩,
                    ⟨some 44, none, .pick (.t 36) (.k (.bool true)) (.t 43)⟩])
                  (.keep [2, 24, 25, 26, 44]
                   (.cond (.t 44)
                    (.seq
                     (.ops [⟨some 4, none, .mv (.k (.int .i64 5))⟩])
                     .ret)
                    .skip)))))
               (.keep [2, 24, 25, 26]
                (.ops [⟨some 45, none, .bin .add (.t 26) (.k (.int .i64 1))⟩,
                  ⟨some 26, none, .mv (.t 45)⟩]))))))))))
       (.keep []
        (.seq
         (.ops [⟨some 4, none, .mv (.k (.int .i64 0))⟩])
         .ret)))))))) }
structure N359 (R : Env) : Prop where
  o359 : R.Fn 359 c359
def c350 : IFn := { np := 1, rs := [.t 2, .t 3], body :=
 (.seq
  (.ops [⟨some 2, none, .mv (.k (.nils))⟩,
    ⟨some 3, none, .mv (.k (.int .i64 0))⟩])
  (.seq
   (.seq
    (.ops [⟨some 10, none, .mv (.t 0)⟩,
      ⟨some 11, none, .lenS (.t 10)⟩,
      ⟨some 12, none, .bin .gtr (.t 11) (.k (.int .i64 256))⟩])
    (.cond (.t 12)
     (.seq
      (.ops [⟨some 2, none, .mv (.k (.nils))⟩,
        ⟨some 3, none, .mv (.k (.int .i64 3))⟩])
      .ret)
     .skip))
   (.keep [0]
    (.seq
     (.ops [⟨some 4, none, .mv (.k (.nils))⟩])
     (.seq
      (.seq
       (.ops [⟨some 13, none, .mv (.t 0)⟩,
         ⟨some 14, none, .lenS (.t 13)⟩,
         ⟨some 15, none, .mv (.k (.int .i64 0))⟩])
       (.keep [4, 13, 14, 15]
        (.block 0
         (.loop
          (.seq
           (.ops [⟨some 16, none, .bin .lss (.t 15) (.t 14)⟩])
           (.seq
            (.cond (.t 16)
             .skip
             (.exit 0))
            (.keep [4, 13, 14, 15]
             (.seq
              (.block 1
               (.seq
                (.ops [⟨some 17, none, .mv (.t 15)⟩,
                  ⟨some 18, none, .idxS 16 (.t 13) (.t 15)⟩,
                  ⟨some 19, none, .load true 16 (.t 18)⟩,
                  ⟨some 6, none, .alloc 43 [.int .i64 0, .int .i64 0, .int .i64 0, .int .i64 0, .int .i64 0, .int .i64 0, .int .i64 0, .int .i64 0, .int .i64 0, .int .i64 0, .int .i64 0, .int .i64 0, .int .i64 0, .int .i64 0, .int .i64 0, .int .i64 0]⟩,
                  ⟨some 5, none, .mv (.t 17)⟩,
                  ⟨none, none, .store 16 (.t 6) (.t 19)⟩])
                (.keep [4, 5, 6, 13, 14, 15]
                 (.seq
                  (.seq
                   (.ops [⟨some 20, none, .load true 16 (.t 6)⟩,
                     ⟨some 21, none, .mv (.t 5)⟩,
                     ⟨some 22, none, .call 359 [.t 20, .t 21]⟩,
                     ⟨some 7, none, .mv (.t 22)⟩])
                   (.seq
                    (.ops [⟨some 23, none, .mv (.t 7)⟩,
                      ⟨some 24, none, .bin .neq (.t 23) (.k (.int .i64 0))⟩])
                    (.cond (.t 24)
                     (.seq
                      (.ops [⟨some 25, none, .mv (.t 7)⟩,
                        ⟨some 2, none, .mv (.k (.nils))⟩,
                        ⟨some 3, none, .mv (.t 25)⟩])
                      .ret)
                     .skip)))
                  (.keep [4, 6, 13, 14, 15]
                   (.seq
                    (.ops [⟨some 8, none, .mv (.k (.int .i64 1))⟩])
                    (.seq
                     (.seq
                      (.ops [⟨some 26, none, .fldA 0 (.t 6)⟩,
                        ⟨some 27, none, .load false 1 (.t 26)⟩,
                        ⟨some 28, none, .bin .geq (.t 27) (.k (.int .i64 0))⟩])
                      (.cond (.t 28)
                       (.ops [⟨some 29, none, .mv (.t 8)⟩,
                         ⟨some 30, none, .mv (.t 4)⟩,
                         ⟨some 31, none, .fldA 0 (.t 6)⟩,
                         ⟨some 32, none, .load false 1 (.t 31)⟩,
                         ⟨some 33, none, .idxS 1 (.t 30) (.t 32)⟩,
                         ⟨some 34, none, .load false 1 (.t 33)⟩,
                         ⟨some 35, none, .bin .add (.t 29) (.t 34)⟩,
                         ⟨some 8, none, .mv (.t 35)⟩])
                       .skip))
                     (.keep [4, 6, 8, 13, 14, 15]
                      (.seq
                       (.seq
                        (.ops [⟨some 36, none, .mv (.t 8)⟩,
                          ⟨some 37, none, .bin .gtr (.t 36) (.k (.int .i64 16))⟩])
                        (.cond (.t 37)
                         (.seq
                          (.ops [⟨some 2, none, .mv (.k (.nils))⟩,
                            ⟨some 3, none, .mv (.k (.int .i64 3))⟩])
                          .ret)
                         .skip))
                       (.keep [4, 6, 8, 13, 14, 15]
                        (.seq
                         (.seq
                          (.ops [⟨some 38, none, .fldA 1 (.t 6)⟩,
                            ⟨some 39, none, .load true 12 (.t 38)⟩,
                            ⟨some 40, none, .call 235 [.t 39]⟩,
                            ⟨some 9, none, .mv (.t 40)⟩])
                          (.seq
                           (.ops [⟨some 41, none, .mv (.t 9)⟩,
                             ⟨some 42, none, .bin .neq (.t 41) (.k (.int .i64 0))⟩])
                           (.cond (.t 42)
                            (.seq
                             (.ops [⟨some 43, none, .mv (.t 9)⟩,
                               ⟨some 2, none, .mv (.k (.nils))⟩,
                               ⟨some 3, none, .mv (.t 43)⟩])
                             .ret)
                            .skip)))
                         (.keep [4, 8, 13, 14, 15]
                          (.ops [⟨some 44, none, .mv (.t 4)⟩,
                            ⟨some 45, none, .mv (.t 8)⟩,
                            ⟨some 46, none, .bslice 10 1 1 [.int .i64 0] [(0, .t 45)]⟩,
                            ⟨some 47, none, .app 10 1 (.t 44) (.t 46)⟩,
                            ⟨some 4, none, .mv (.t 47)⟩])))))))))))))
              (.keep [4, 13, 14, 15]
               (.ops [⟨some 48, none, .bin .add (.t 15) (.k (.int .i64 1))⟩,
                 ⟨some 15, none, .mv (.t 48)⟩]))))))))))
      (.keep [4]
       (.seq
        (.ops [⟨some 49, none, .mv (.t 4)⟩,
          ⟨some 2, none, .mv (.t 49)⟩,
          ⟨some 3, none, .mv (.k (.int .i64 0))⟩])
        .ret))))))) }
structure N350 (R : Env) : Prop where
  o350 : R.Fn 350 c350
  n235 : N235 R
  n359 : N359 R
def c330 : IFn := { np := 1, rs := [.t 2], body :=
 (.seq
  (.ops [⟨some 2, none, .mv (.k (.int .i64 0))⟩])
  (.seq
   (.ops [⟨some 6, none, .mv (.t 0)⟩,
     ⟨some 7, none, .call 350 [.t 6]⟩,
     ⟨some 5, none, .mv (.t 7)⟩,
     ⟨some 8, none, .ext (.t 5) 0⟩,
     ⟨some 9, none, .ext (.t 5) 1⟩,
     ⟨some 3, none, .mv (.t 8)⟩,
     ⟨some 4, none, .mv (.t 9)⟩])
   (.keep [4]
    (.seq
     (.ops [⟨some 10, none, .mv (.t 4)⟩,
       ⟨some 2, none, .mv (.t 10)⟩])
     .ret)))) }
structure N330 (R : Env) : Prop where
  o330 : R.Fn 330 c330
  n350 : N350 R
def c348 : IFn := { np := 2, rs := [.cell 4 true 12], body :=
 (.seq
  (.ops [⟨some 4, none, .alloc 33 [.int .i64 0, .int .i64 0, .int .i64 0, .int .i64 0, .int .i64 0, .int .i64 0, .int .i64 0, .int .i64 0, .int .i64 0, .int .i64 0, .int .i64 0, .int .i64 0]⟩])
  (.seq
   (.ops [⟨some 5, none, .mv (.k (.nils))⟩])
   (.keep [0, 1, 4, 5]
    (.seq
     (.block 0
      (.loop
       (.seq
        (.seq
         (.ops [⟨some 6, none, .mv (.t 1)⟩,
           ⟨some 7, none, .bin .geq (.t 6) (.k (.int .i64 0))⟩])
         (.cond (.t 7)
          .skip
          (.exit 0)))
        (.keep [0, 1, 4, 5]
         (.seq
          (.block 1
           (.ops [⟨some 13, none, .mv (.t 5)⟩,
             ⟨some 14, none, .mv (.t 0)⟩,
             ⟨some 15, none, .mv (.t 1)⟩,
             ⟨some 16, none, .idxS 16 (.t 14) (.t 15)⟩,
             ⟨some 17, none, .fldA 1 (.t 16)⟩,
             ⟨some 18, none, .load true 12 (.t 17)⟩,
             ⟨some 19, none, .bslice 33 12 1 [.int .i64 0, .int .i64 0, .int .i64 0, .int .i64 0, .int .i64 0, .int .i64 0, .int .i64 0, .int .i64 0, .int .i64 0, .int .i64 0, .int .i64 0, .int .i64 0] [(0, .t 18)]⟩,
             ⟨some 20, none, .app 33 12 (.t 13) (.t 19)⟩,
             ⟨some 5, none, .mv (.t 20)⟩]))
          (.keep [0, 1, 4, 5]
           (.ops [⟨some 8, none, .mv (.t 0)⟩,
             ⟨some 9, none, .mv (.t 1)⟩,
             ⟨some 10, none, .idxS 16 (.t 8) (.t 9)⟩,
             ⟨some 11, none, .fldA 0 (.t 10)⟩,
             ⟨some 12, none, .load false 1 (.t 11)⟩,
             ⟨some 1, none, .mv (.t 12)⟩])))))))
     (.keep [4, 5]
      (.seq
       (.ops [⟨some 21, none, .mv (.t 5)⟩,
         ⟨some 22, none, .call 238 [.t 21]⟩,
         ⟨none, none, .store 12 (.t 4) (.t 22)⟩])
       .ret)))))) }
structure N348 (R : Env) : Prop where
  o348 : R.Fn 348 c348
  n238 : N238 R
def c327 : IFn := { np := 1, rs := [.t 2, .t 3], body :=
 (.seq
  (.ops [⟨some 2, none, .mv (.k (.nils))⟩,
    ⟨some 3, none, .mv (.k (.int .i64 0))⟩])
  (.seq
   (.seq
    (.ops [⟨some 12, none, .mv (.t 0)⟩,
      ⟨some 13, none, .call 330 [.t 12]⟩,
      ⟨some 4, none, .mv (.t 13)⟩])
    (.seq
     (.ops [⟨some 14, none, .mv (.t 4)⟩,
       ⟨some 15, none, .bin .neq (.t 14) (.k (.int .i64 0))⟩])
     (.cond (.t 15)
      (.seq
       (.ops [⟨some 16, none, .mv (.t 4)⟩,
         ⟨some 2, none, .mv (.k (.nils))⟩,
         ⟨some 3, none, .mv (.t 16)⟩])
       .ret)
      .skip)))
   (.keep [0]
    (.seq
     (.ops [⟨some 17, none, .mkm 3 true false 4⟩,
       ⟨some 5, none, .mv (.t 17)⟩])
     (.seq
      (.ops [⟨some 6, none, .mv (.k (.nils))⟩])
      (.seq
       (.seq
        (.ops [⟨some 18, none, .mv (.t 0)⟩,
          ⟨some 19, none, .lenS (.t 18)⟩,
          ⟨some 20, none, .mv (.k (.int .i64 0))⟩])
        (.keep [0, 5, 6, 18, 19, 20]
         (.block 0
          (.loop
           (.seq
            (.ops [⟨some 21, none, .bin .lss (.t 20) (.t 19)⟩])
            (.seq
             (.cond (.t 21)
              .skip
              (.exit 0))
             (.keep [0, 5, 6, 18, 19, 20]
              (.seq
               (.block 1
                (.seq
                 (.ops [⟨some 22, none, .mv (.t 20)⟩,
                   ⟨some 23, none, .idxS 16 (.t 18) (.t 20)⟩,
                   ⟨some 24, none, .load true 16 (.t 23)⟩,
                   ⟨some 8, none, .alloc 43 [.int .i64 0, .int .i64 0, .int .i64 0, .int .i64 0, .int .i64 0, .int .i64 0, .int .i64 0, .int .i64 0, .int .i64 0, .int .i64 0, .int .i64 0, .int .i64 0, .int .i64 0, .int .i64 0, .int .i64 0, .int .i64 0]⟩,
                   ⟨some 7, none, .mv (.t 22)⟩,
                   ⟨none, none, .store 16 (.t 8) (.t 24)⟩])
                 (.keep [0, 5, 6, 7, 8, 18, 19, 20]
                  (.seq
                   (.seq
                    (.ops [⟨some 25, none, .fldA 13 (.t 8)⟩,
                      ⟨some 26, none, .load false 1 (.t 25)⟩,
                      ⟨some 27, none, .bin .eql (.t 26) (.k (.int .i64 0))⟩])
                    (.cond (.t 27)
                     (.exit 1)
                     .skip))
                   (.keep [0, 5, 6, 7, 8, 18, 19, 20]
                    (.seq
                     (.ops [⟨some 28, none, .mv (.t 0)⟩,
                       ⟨some 29, none, .mv (.t 7)⟩,
                       ⟨some 30, none, .call 348 [.t 28, .t 29]⟩,
                       ⟨some 9, none, .alloc 33 [.int .i64 0, .int .i64 0, .int .i64 0, .int .i64 0, .int .i64 0, .int .i64 0, .int .i64 0, .int .i64 0, .int .i64 0, .int .i64 0, .int .i64 0, .int .i64 0]⟩,
                       ⟨none, none, .store 12 (.t 9) (.t 30)⟩])
                     (.keep [0, 5, 6, 8, 9, 18, 19, 20]
                      (.seq
                       (.seq
                        (.ops [⟨some 31, none, .load true 12 (.t 9)⟩,
                          ⟨some 32, none, .call 235 [.t 31]⟩,
                          ⟨some 10, none, .mv (.t 32)⟩])
                        (.seq
                         (.ops [⟨some 33, none, .mv (.t 10)⟩,
                           ⟨some 34, none, .bin .neq (.t 33) (.k (.int .i64 0))⟩])
                         (.cond (.t 34)
                          (.seq
                           (.ops [⟨some 35, none, .mv (.t 10)⟩,
                             ⟨some 2, none, .mv (.k (.nils))⟩,
                             ⟨some 3, none, .mv (.t 35)⟩])
                           .ret)
                          .skip)))
                       (.keep [0, 5, 6, 8, 9, 18, 19, 20]
                        (.seq
                         (.ops [⟨some 36, none, .fldA 13 (.t 8)⟩,
                           ⟨some 37, none, .load false 1 (.t 36)⟩,
                           ⟨some 38, none, .fldA 14 (.t 8)⟩,
                           ⟨some 39, none, .load false 1 (.t 38)⟩,
                           ⟨some 40, none, .fldA 15 (.t 8)⟩,
                           ⟨some 41, none, .load false 1 (.t 40)⟩,
                           ⟨some 42, none, .build [.int .i64 0, .int .i64 0, .int .i64 0] [(0, 1, .t 37), (1, 1, .t 39), (2, 1, .t 41)]⟩,
                           ⟨some 11, none, .alloc 13 [.int .i64 0, .int .i64 0, .int .i64 0]⟩,
                           ⟨none, none, .store 3 (.t 11) (.t 42)⟩])
                         (.keep [0, 5, 6, 8, 9, 11, 18, 19, 20]
                          (.seq
                           (.draw [0, 0, 2, 0, 8, 0, 32, 0, 0, 384, 0, 2046, 4094, 8191, 16383] [[6], [8], [44], [8], [46], [8], [48], [5], [11], [50, 51], [9], [45, 47, 49, 52, 53], [54], [43, 55], [56]] [⟨some 43, none, .mv (.t 6)⟩,
                             ⟨some 44, none, .fldA 13 (.t 8)⟩,
                             ⟨some 45, none, .load false 1 (.t 44)⟩,
                             ⟨some 46, none, .fldA 14 (.t 8)⟩,
                             ⟨some 47, none, .load false 1 (.t 46)⟩,
                             ⟨some 48, none, .fldA 15 (.t 8)⟩,
                             ⟨some 49, none, .load false 1 (.t 48)⟩,
                             ⟨some 50, none, .mv (.t 5)⟩,
                             ⟨some 51, none, .load true 3 (.t 11)⟩,
                             ⟨some 52, none, .lkc [.i, .i, .i] true (.t 50) (.t 51)⟩,
                             ⟨some 53, none, .load true 12 (.t 9)⟩,
                             ⟨some 54, none, .build [.int .i64 0, .int .i64 0, .int .i64 0, .int .i64 0, .int .i64 0, .int .i64 0, .int .i64 0, .int .i64 0, .int .i64 0, .int .i64 0, .int .i64 0, .int .i64 0, .int .i64 0, .int .i64 0, .int .i64 0, .int .i64 0] [(0, 1, .t 45), (1, 1, .t 47), (2, 1, .t 49), (3, 1, .t 52), (4, 12, .t 53)]⟩,
                             ⟨some 55, none, .bslice 44 16 1 [.int .i64 0, .int .i64 0, .int .i64 0, .int .i64 0, .int .i64 0, .int .i64 0, .int .i64 0, .int .i64 0, .int .i64 0, .int .i64 0, .int .i64 0, .int .i64 0, .int .i64 0, .int .i64 0, .int .i64 0, .int .i64 0] [(0, .t 54)]⟩,
                             ⟨some 56, none, .app 44 16 (.t 43) (.t 55)⟩,
                             ⟨some 6, none, .mv (.t 56)⟩])
                           (.keep [0, 5, 6, 11, 18, 19, 20]
                            (.draw [0, 0, 3, 7, 3, 19, 63] [[5], [11], [57, 58], [59], [57, 58], [61], [57, 62, 60]] [⟨some 57, none, .mv (.t 5)⟩,
                              ⟨some 58, none, .load true 3 (.t 11)⟩,
                              ⟨some 59, none, .lkc [.i, .i, .i] true (.t 57) (.t 58)⟩,
                              ⟨some 60, none, .bin .add (.t 59) (.k (.int .i64 1))⟩,
                              ⟨some 61, none, .enc [.i, .i, .i] true (.t 57) (.t 58)⟩,
                              ⟨some 62, none, .ext (.t 61) 1⟩,
                              ⟨none, none, .stm false (.t 57) (.t 62) (.t 60)⟩]))))))))))))))
               (.keep [0, 5, 6, 18, 19, 20]
                (.ops [⟨some 63, none, .bin .add (.t 20) (.k (.int .i64 1))⟩,
                  ⟨some 20, none, .mv (.t 63)⟩]))))))))))
       (.keep [6]
        (.seq
         (.ops [⟨some 64, none, .mv (.t 6)⟩,
           ⟨some 2, none, .mv (.t 64)⟩,
           ⟨some 3, none, .mv (.k (.int .i64 0))⟩])
         .ret)))))))) }
structure N327 (R : Env) : Prop where
  o327 : R.Fn 327 c327
  n235 : N235 R
  n330 : N330 R
  n348 : N348 R
def c331 : IFn := { np := 2, rs := [.t 4, .t 5], body :=
 (.seq
  (.ops [⟨some 4, none, .mv (.k (.int .i64 0))⟩,
    ⟨some 5, none, .mv (.k (.int .i64 0))⟩])
  (.seq
   (.ops [⟨some 9, none, .mv (.t 0)⟩,
     ⟨some 10, none, .call 350 [.t 9]⟩,
     ⟨some 8, none, .mv (.t 10)⟩,
     ⟨some 11, none, .ext (.t 8) 0⟩,
     ⟨some 12, none, .ext (.t 8) 1⟩,
     ⟨some 6, none, .mv (.t 11)⟩,
     ⟨some 7, none, .mv (.t 12)⟩])
   (.keep [0, 1, 6, 7]
    (.seq
     (.seq
      (.ops [⟨some 13, none, .mv (.t 7)⟩,
        ⟨some 14, none, .bin .neq (.t 13) (.k (.int .i64 0))⟩])
      (.cond (.t 14)
       (.seq
        (.ops [⟨some 15, none, .mv (.t 7)⟩,
          ⟨some 4, none, .mv (.k (.int .i64 0))⟩,
          ⟨some 5, none, .mv (.t 15)⟩])
        .ret)
       .skip))
     (.keep [0, 1, 6]
      (.seq
       (.seq
        (.ops [⟨some 16, none, .mv (.t 1)⟩,
          ⟨some 17, none, .bin .lss (.t 16) (.k (.int .i64 0))⟩,
          ⟨some 18, none, .mv (.t 17)⟩,
          ⟨some 19, some (18, false), .mv (.t 1)⟩,
          ⟨some 20, some (18, false), .mv (.t 0)⟩,
          ⟨some 21, some (18, false), .lenS (.t 20)⟩,
          ⟨some 22, some (18, false), .bin .geq (.t 19) (.t 21)⟩,
          ⟨some 23, none, .pick (.t 18) (.k (.bool true)) (.t 22)⟩])
        (.keep [1, 6, 23]
         (.cond (.t 23)
          (.seq
           (.ops [⟨some 4, none, .mv (.k (.int .i64 0))⟩,
             ⟨some 5, none, .mv (.k (.int .i64 2))⟩])
           .ret)
          .skip)))
       (.keep [1, 6]
        (.seq
         (.ops [⟨some 24, none, .mv (.t 6)⟩,
           ⟨some 25, none, .mv (.t 1)⟩,
           ⟨some 26, none, .idxS 1 (.t 24) (.t 25)⟩,
           ⟨some 27, none, .load false 1 (.t 26)⟩,
           ⟨some 4, none, .mv (.t 27)⟩,
           ⟨some 5, none, .mv (.k (.int .i64 0))⟩])
         (.keep [4, 5]
          .ret))))))))) }
structure N331 (R : Env) : Prop where
  o331 : R.Fn 331 c331
  n350 : N350 R
def c332 : IFn := { np := 2, rs := [.cell 4 true 12, .t 5], body :=
 (.seq
  (.ops [⟨some 4, none, .alloc 33 [.int .i64 0, .int .i64 0, .int .i64 0, .int .i64 0, .int .i64 0, .int .i64 0, .int .i64 0, .int .i64 0, .int .i64 0, .int .i64 0, .int .i64 0, .int .i64 0]⟩,
    ⟨some 5, none, .mv (.k (.int .i64 0))⟩])
  (.seq
   (.seq
    (.ops [⟨some 7, none, .mv (.t 0)⟩,
      ⟨some 8, none, .call 330 [.t 7]⟩,
      ⟨some 6, none, .mv (.t 8)⟩])
    (.seq
     (.ops [⟨some 9, none, .mv (.t 6)⟩,
       ⟨some 10, none, .bin .neq (.t 9) (.k (.int .i64 0))⟩])
     (.cond (.t 10)
      (.seq
       (.ops [⟨some 11, none, .build [.int .i64 0, .int .i64 0, .int .i64 0, .int .i64 0, .int .i64 0, .int .i64 0, .int .i64 0, .int .i64 0, .int .i64 0, .int .i64 0, .int .i64 0, .int .i64 0] []⟩,
         ⟨some 12, none, .mv (.t 6)⟩,
         ⟨none, none, .store 12 (.t 4) (.t 11)⟩,
         ⟨some 5, none, .mv (.t 12)⟩])
       .ret)
      .skip)))
   (.keep [0, 1, 4]
    (.seq
     (.seq
      (.ops [⟨some 13, none, .mv (.t 1)⟩,
        ⟨some 14, none, .bin .lss (.t 13) (.k (.int .i64 0))⟩,
        ⟨some 15, none, .mv (.t 14)⟩,
        ⟨some 16, some (15, false), .mv (.t 1)⟩,
        ⟨some 17, some (15, false), .mv (.t 0)⟩,
        ⟨some 18, some (15, false), .lenS (.t 17)⟩,
        ⟨some 19, some (15, false), .bin .geq (.t 16) (.t 18)⟩,
        ⟨some 20, none, .pick (.t 15) (.k (.bool true)) (.t 19)⟩])
      (.keep [0, 1, 4, 20]
       (.cond (.t 20)
        (.seq
         (.ops [⟨some 21, none, .build [.int .i64 0, .int .i64 0, .int .i64 0, .int .i64 0, .int .i64 0, .int .i64 0, .int .i64 0, .int .i64 0, .int .i64 0, .int .i64 0, .int .i64 0, .int .i64 0] []⟩,
           ⟨none, none, .store 12 (.t 4) (.t 21)⟩,
           ⟨some 5, none, .mv (.k (.int .i64 2))⟩])
         .ret)
        .skip)))
     (.keep [0, 1, 4]
      (.seq
       (.ops [⟨some 22, none, .mv (.t 0)⟩,
         ⟨some 23, none, .mv (.t 1)⟩,
         ⟨some 24, none, .call 348 [.t 22, .t 23]⟩,
         ⟨none, none, .store 12 (.t 4) (.t 24)⟩,
         ⟨some 5, none, .mv (.k (.int .i64 0))⟩])
       (.keep [4, 5]
        .ret))))))) }
structure N332 (R : Env) : Prop where
  o332 : R.Fn 332 c332
  n330 : N330 R
  n348 : N348 R
def c333 : IFn := { np := 2, rs := [.t 4, .t 5], body :=
 (.seq
  (.ops [⟨some 4, none, .mv (.k (.nils))⟩,
    ⟨some 5, none, .mv (.k (.int .i64 0))⟩])
  (.seq
   (.seq
    (.ops [⟨some 11, none, .mv (.t 0)⟩,
      ⟨some 12, none, .call 330 [.t 11]⟩,
      ⟨some 6, none, .mv (.t 12)⟩])
    (.seq
     (.ops [⟨some 13, none, .mv (.t 6)⟩,
       ⟨some 14, none, .bin .neq (.t 13) (.k (.int .i64 0))⟩])
     (.cond (.t 14)
      (.seq
       (.ops [⟨some 15, none, .mv (.t 6)⟩,
         ⟨some 4, none, .mv (.k (.nils))⟩,
         ⟨some 5, none, .mv (.t 15)⟩])
       .ret)
      .skip)))
   (.keep [0, 1]
    (.seq
     (.seq
      (.ops [⟨some 16, none, .mv (.t 1)⟩,
        ⟨some 17, none, .bin .lss (.t 16) (.k (.int .i64 0))⟩,
        ⟨some 18, none, .mv (.t 17)⟩,
        ⟨some 19, some (18, false), .mv (.t 1)⟩,
        ⟨some 20, some (18, false), .mv (.t 0)⟩,
        ⟨some 21, some (18, false), .lenS (.t 20)⟩,
        ⟨some 22, some (18, false), .bin .geq (.t 19) (.t 21)⟩,
        ⟨some 23, none, .pick (.t 18) (.k (.bool true)) (.t 22)⟩])
      (.keep [0, 1, 23]
       (.cond (.t 23)
        (.seq
         (.ops [⟨some 4, none, .mv (.k (.nils))⟩,
           ⟨some 5, none, .mv (.k (.int .i64 2))⟩])
         .ret)
        .skip)))
     (.keep [0, 1]
      (.seq
       (.ops [⟨some 7, none, .mv (.k (.nils))⟩])
       (.seq
        (.ops [⟨some 24, none, .mv (.t 0)⟩,
          ⟨some 25, none, .lenS (.t 24)⟩,
          ⟨some 26, none, .mks 46 1 [.bool false] (.t 25) (.t 25)⟩,
          ⟨some 8, none, .mv (.t 26)⟩])
        (.seq
         (.seq
          (.ops [⟨some 27, none, .mv (.t 0)⟩,
            ⟨some 28, none, .lenS (.t 27)⟩,
            ⟨some 29, none, .mv (.k (.int .i64 0))⟩])
          (.keep [1, 7, 8, 27, 28, 29]
           (.block 0
            (.loop
             (.seq
              (.ops [⟨some 30, none, .bin .lss (.t 29) (.t 28)⟩])
              (.seq
               (.cond (.t 30)
                .skip
                (.exit 0))
               (.keep [1, 7, 8, 27, 28, 29]
                (.seq
                 (.block 1
                  (.seq
                   (.ops [⟨some 31, none, .mv (.t 29)⟩,
                     ⟨some 32, none, .idxS 16 (.t 27) (.t 29)⟩,
                     ⟨some 33, none, .load true 16 (.t 32)⟩,
                     ⟨some 10, none, .alloc 43 [.int .i64 0, .int .i64 0, .int .i64 0, .int .i64 0, .int .i64 0, .int .i64 0, .int .i64 0, .int .i64 0, .int .i64 0, .int .i64 0, .int .i64 0, .int .i64 0, .int .i64 0, .int .i64 0, .int .i64 0, .int .i64 0]⟩,
                     ⟨some 9, none, .mv (.t 31)⟩,
                     ⟨none, none, .store 16 (.t 10) (.t 33)⟩])
                   (.keep [1, 7, 8, 9, 10, 27, 28, 29]
                    (.seq
                     (.ops [⟨some 34, none, .fldA 0 (.t 10)⟩,
                       ⟨some 35, none, .load false 1 (.t 34)⟩,
                       ⟨some 36, none, .bin .geq (.t 35) (.k (.int .i64 0))⟩,
                       ⟨some 37, none, .mv (.t 36)⟩,
                       ⟨some 38, some (37, true), .fldA 0 (.t 10)⟩,
                       ⟨some 39, some (37, true), .load false 1 (.t 38)⟩,
                       ⟨some 40, some (37, true), .mv (.t 1)⟩,
                       ⟨some 41, some (37, true), .bin .eql (.t 39) (.t 40)⟩,
                       ⟨some 42, some (37, true), .mv (.t 41)⟩,
                       ⟨some 43, some (42, false), .mv (.t 8)⟩,
                       ⟨some 44, some (42, false), .fldA 0 (.t 10)⟩,
                       ⟨some 45, some (42, false), .load false 1 (.t 44)⟩,
                       ⟨some 46, some (42, false), .idxS 1 (.t 43) (.t 45)⟩,
                       ⟨some 47, some (42, false), .load false 1 (.t 46)⟩,
                       ⟨some 48, some (37, true), .pick (.t 42) (.k (.bool true)) (.t 47)⟩,
                       ⟨some 49, none, .pick (.t 37) (.t 48) (.k (.bool false))⟩])
                     (.keep [1, 7, 8, 9, 27, 28, 29, 49]
                      (.cond (.t 49)
                       (.seq
                        (.ops [⟨some 50, none, .mv (.t 8)⟩,
                          ⟨some 51, none, .mv (.t 9)⟩,
                          ⟨some 52, none, .idxS 1 (.t 50) (.t 51)⟩,
                          ⟨none, none, .store 1 (.t 52) (.k (.bool true))⟩])
                        (.ops [⟨some 53, none, .mv (.t 7)⟩,
                          ⟨some 54, none, .mv (.t 9)⟩,
                          ⟨some 55, none, .bslice 10 1 1 [.int .i64 0] [(0, .t 54)]⟩,
                          ⟨some 56, none, .app 10 1 (.t 53) (.t 55)⟩,
                          ⟨some 7, none, .mv (.t 56)⟩]))
                       .skip))))))
                 (.keep [1, 7, 8, 27, 28, 29]
                  (.ops [⟨some 57, none, .bin .add (.t 29) (.k (.int .i64 1))⟩,
                    ⟨some 29, none, .mv (.t 57)⟩]))))))))))
         (.keep [7]
          (.seq
           (.ops [⟨some 58, none, .mv (.t 7)⟩,
             ⟨some 4, none, .mv (.t 58)⟩,
             ⟨some 5, none, .mv (.k (.int .i64 0))⟩])
           .ret)))))))))) }
structure N333 (R : Env) : Prop where
  o333 : R.Fn 333 c333
  n330 : N330 R
end Go.UM

namespace Go.UM
open Go.AM
end Go.UM

namespace Go.UM
open Go.AM
end Go.UM

namespace Go.UM
open Go.AM
end Go.UM

namespace Go.UM
open Go.AM
def c279 : IFn := { np := 1, rs := [.t 2], body :=
 (.seq
  (.ops [⟨some 2, none, .mv (.k (.int .u64 0))⟩])
  (.seq
   (.seq
    (.ops [⟨some 3, none, .mv (.t 0)⟩,
      ⟨some 4, none, .bin .lss (.t 3) (.k (.int .i64 0))⟩])
    (.cond (.t 4)
     (.seq
      (.ops [⟨some 5, none, .mv (.t 0)⟩,
        ⟨some 6, none, .bin .add (.t 5) (.k (.int .i64 1))⟩,
        ⟨some 7, none, .un .neg (.t 6)⟩,
        ⟨some 8, none, .conv .u64 (.t 7)⟩,
        ⟨some 9, none, .bin .add (.t 8) (.k (.int .u64 1))⟩,
        ⟨some 2, none, .mv (.t 9)⟩])
      (.keep [2]
       .ret))
     .skip))
   (.keep [0]
    (.seq
     (.ops [⟨some 10, none, .mv (.t 0)⟩,
       ⟨some 11, none, .conv .u64 (.t 10)⟩,
       ⟨some 2, none, .mv (.t 11)⟩])
     .ret)))) }
structure N279 (R : Env) : Prop where
  o279 : R.Fn 279 c279
def c280 : IFn := { np := 3, rs := [.t 6], body :=
 (.seq
  (.ops [⟨some 6, none, .mv (.k (.int .i64 0))⟩])
  (.seq
   (.seq
    (.ops [⟨some 7, none, .mv (.t 1)⟩])
    (.cond (.t 7)
     (.seq
      (.seq
       (.ops [⟨some 8, none, .mv (.t 2)⟩,
         ⟨some 9, none, .mv (.t 8)⟩,
         ⟨some 10, some (9, false), .mv (.t 0)⟩,
         ⟨some 11, some (9, false), .bin .geq (.t 10) (.k (.int .u64 9223372036854775808))⟩,
         ⟨some 12, none, .pick (.t 9) (.k (.bool true)) (.t 11)⟩])
       (.keep [0, 12]
        (.cond (.t 12)
         (.seq
          (.ops [⟨some 6, none, .mv (.k (.int .i64 (-9223372036854775808)))⟩])
          .ret)
         .skip)))
      (.keep [0]
       (.seq
        (.ops [⟨some 13, none, .mv (.t 0)⟩,
          ⟨some 14, none, .conv .i64 (.t 13)⟩,
          ⟨some 15, none, .un .neg (.t 14)⟩,
          ⟨some 6, none, .mv (.t 15)⟩])
        .ret)))
     .skip))
   (.keep [0, 2]
    (.seq
     (.seq
      (.ops [⟨some 16, none, .mv (.t 2)⟩,
        ⟨some 17, none, .mv (.t 16)⟩,
        ⟨some 18, some (17, false), .mv (.t 0)⟩,
        ⟨some 19, some (17, false), .bin .geq (.t 18) (.k (.int .u64 9223372036854775808))⟩,
        ⟨some 20, none, .pick (.t 17) (.k (.bool true)) (.t 19)⟩])
      (.keep [0, 20]
       (.cond (.t 20)
        (.seq
         (.ops [⟨some 6, none, .mv (.k (.int .i64 9223372036854775807))⟩])
         .ret)
        .skip)))
     (.keep [0]
      (.seq
       (.ops [⟨some 21, none, .mv (.t 0)⟩,
         ⟨some 22, none, .conv .i64 (.t 21)⟩,
         ⟨some 6, none, .mv (.t 22)⟩])
       .ret)))))) }
structure N280 (R : Env) : Prop where
  o280 : R.Fn 280 c280
def c268 : IFn := { np := 2, rs := [.t 4], body :=
 (.seq
  (.ops [⟨some 4, none, .mv (.k (.int .i64 0))⟩])
  (.seq
   (.ops [⟨some 11, none, .mv (.t 0)⟩,
     ⟨some 12, none, .call 279 [.t 11]⟩,
     ⟨some 13, none, .mv (.t 1)⟩,
     ⟨some 14, none, .call 279 [.t 13]⟩,
     ⟨some 15, none, .call 276 [.t 12, .t 14]⟩,
     ⟨some 10, none, .mv (.t 15)⟩,
     ⟨some 16, none, .ext (.t 10) 0⟩,
     ⟨some 17, none, .ext (.t 10) 1⟩,
     ⟨some 5, none, .mv (.t 16)⟩,
     ⟨some 6, none, .mv (.t 17)⟩])
   (.keep [0, 1, 5, 6]
    (.seq
     (.ops [⟨some 18, none, .mv (.t 5)⟩,
       ⟨some 19, none, .bin .shl (.t 18) (.k (.int .u64 32))⟩,
       ⟨some 20, none, .mv (.t 6)⟩,
       ⟨some 21, none, .bin .shr (.t 20) (.k (.int .u64 32))⟩,
       ⟨some 22, none, .bin .or (.t 19) (.t 21)⟩,
       ⟨some 7, none, .mv (.t 22)⟩])
     (.keep [0, 1, 5, 6, 7]
      (.seq
       (.ops [⟨some 23, none, .mv (.t 5)⟩,
         ⟨some 24, none, .bin .geq (.t 23) (.k (.int .u64 4294967296))⟩,
         ⟨some 8, none, .mv (.t 24)⟩])
       (.seq
        (.ops [⟨some 25, none, .mv (.t 0)⟩,
          ⟨some 26, none, .bin .lss (.t 25) (.k (.int .i64 0))⟩,
          ⟨some 27, none, .mv (.t 1)⟩,
          ⟨some 28, none, .bin .lss (.t 27) (.k (.int .i64 0))⟩,
          ⟨some 29, none, .eqb true (.t 26) (.t 28)⟩,
          ⟨some 9, none, .mv (.t 29)⟩])
        (.keep [6, 7, 8, 9]
         (.seq
          (.seq
           (.ops [⟨some 30, none, .mv (.t 9)⟩,
             ⟨some 31, none, .mv (.t 30)⟩,
             ⟨some 32, some (31, true), .mv (.t 6)⟩,
             ⟨some 33, some (31, true), .bin .and (.t 32) (.k (.int .u64 4294967295))⟩,
             ⟨some 34, some (31, true), .bin .gtr (.t 33) (.k (.int .u64 0))⟩,
             ⟨some 35, none, .pick (.t 31) (.t 34) (.k (.bool false))⟩])
           (.keep [7, 8, 9, 35]
            (.cond (.t 35)
             (.seq
              (.ops [⟨some 36, none, .mv (.t 7)⟩,
                ⟨some 37, none, .bin .add (.t 36) (.k (.int .u64 1))⟩,
                ⟨some 7, none, .mv (.t 37)⟩])
              (.ops [⟨some 38, none, .mv (.t 8)⟩,
                ⟨some 39, none, .mv (.t 38)⟩,
                ⟨some 40, some (39, false), .mv (.t 7)⟩,
                ⟨some 41, some (39, false), .bin .eql (.t 40) (.k (.int .u64 0))⟩,
                ⟨some 42, none, .pick (.t 39) (.k (.bool true)) (.t 41)⟩,
                ⟨some 8, none, .mv (.t 42)⟩]))
             .skip)))
          (.keep [7, 8, 9]
           (.seq
            (.ops [⟨some 43, none, .mv (.t 7)⟩,
              ⟨some 44, none, .mv (.t 9)⟩,
              ⟨some 45, none, .mv (.t 8)⟩,
              ⟨some 46, none, .call 280 [.t 43, .t 44, .t 45]⟩,
              ⟨some 4, none, .mv (.t 46)⟩])
            (.keep [4]
             .ret)))))))))))) }
structure N268 (R : Env) : Prop where
  o268 : R.Fn 268 c268
  n276 : N276 R
  n279 : N279 R
  n280 : N280 R
def c269 : IFn := { np := 2, rs := [.t 4], body :=
 (.seq
  (.ops [⟨some 4, none, .mv (.k (.int .i64 0))⟩])
  (.seq
   (.ops [⟨some 7, none, .mv (.t 0)⟩,
     ⟨some 8, none, .call 279 [.t 7]⟩,
     ⟨some 9, none, .mv (.t 1)⟩,
     ⟨some 10, none, .call 279 [.t 9]⟩,
     ⟨some 5, none, .mv (.t 8)⟩,
     ⟨some 6, none, .mv (.t 10)⟩])
   (.keep [0, 1, 5, 6]
    (.seq
     (.seq
      (.ops [⟨some 11, none, .mv (.t 0)⟩,
        ⟨some 12, none, .bin .lss (.t 11) (.k (.int .i64 0))⟩,
        ⟨some 13, none, .mv (.t 1)⟩,
        ⟨some 14, none, .bin .lss (.t 13) (.k (.int .i64 0))⟩,
        ⟨some 15, none, .eqb false (.t 12) (.t 14)⟩])
      (.keep [0, 1, 5, 6, 15]
       (.cond (.t 15)
        (.seq
         (.ops [⟨some 16, none, .mv (.t 5)⟩,
           ⟨some 17, none, .mv (.t 6)⟩,
           ⟨some 18, none, .bin .add (.t 16) (.t 17)⟩,
           ⟨some 19, none, .mv (.t 0)⟩,
           ⟨some 20, none, .bin .lss (.t 19) (.k (.int .i64 0))⟩,
           ⟨some 21, none, .mv (.t 5)⟩,
           ⟨some 22, none, .mv (.t 6)⟩,
           ⟨some 23, none, .bin .add (.t 21) (.t 22)⟩,
           ⟨some 24, none, .mv (.t 5)⟩,
           ⟨some 25, none, .bin .lss (.t 23) (.t 24)⟩,
           ⟨some 26, none, .call 280 [.t 18, .t 20, .t 25]⟩,
           ⟨some 4, none, .mv (.t 26)⟩])
         (.keep [4]
          .ret))
        .skip)))
     (.keep [0, 1]
      (.seq
       (.ops [⟨some 27, none, .mv (.t 0)⟩,
         ⟨some 28, none, .mv (.t 1)⟩,
         ⟨some 29, none, .bin .add (.t 27) (.t 28)⟩,
         ⟨some 4, none, .mv (.t 29)⟩])
       .ret)))))) }
structure N269 (R : Env) : Prop where
  o269 : R.Fn 269 c269
  n279 : N279 R
  n280 : N280 R
def c282 : IFn := { np := 2, rs := [.t 4], body :=
 (.seq
  (.ops [⟨some 4, none, .mv (.k (.int .i64 0))⟩])
  (.seq
   (.ops [⟨some 7, none, .mv (.t 0)⟩,
     ⟨some 8, none, .call 279 [.t 7]⟩,
     ⟨some 9, none, .mv (.t 1)⟩,
     ⟨some 10, none, .call 279 [.t 9]⟩,
     ⟨some 5, none, .mv (.t 8)⟩,
     ⟨some 6, none, .mv (.t 10)⟩])
   (.keep [0, 1, 5, 6]
    (.seq
     (.seq
      (.ops [⟨some 11, none, .mv (.t 0)⟩,
        ⟨some 12, none, .bin .lss (.t 11) (.k (.int .i64 0))⟩,
        ⟨some 13, none, .mv (.t 1)⟩,
        ⟨some 14, none, .bin .lss (.t 13) (.k (.int .i64 0))⟩,
        ⟨some 15, none, .eqb true (.t 12) (.t 14)⟩])
      (.keep [0, 1, 5, 6, 15]
       (.cond (.t 15)
        (.seq
         (.ops [⟨some 16, none, .mv (.t 5)⟩,
           ⟨some 17, none, .mv (.t 6)⟩,
           ⟨some 18, none, .bin .add (.t 16) (.t 17)⟩,
           ⟨some 19, none, .mv (.t 0)⟩,
           ⟨some 20, none, .bin .lss (.t 19) (.k (.int .i64 0))⟩,
           ⟨some 21, none, .mv (.t 5)⟩,
           ⟨some 22, none, .mv (.t 6)⟩,
           ⟨some 23, none, .bin .add (.t 21) (.t 22)⟩,
           ⟨some 24, none, .mv (.t 5)⟩,
           ⟨some 25, none, .bin .lss (.t 23) (.t 24)⟩,
           ⟨some 26, none, .call 280 [.t 18, .t 20, .t 25]⟩,
           ⟨some 4, none, .mv (.t 26)⟩])
         (.keep [4]
          .ret))
        .skip)))
     (.keep [0, 1]
      (.seq
       (.ops [⟨some 27, none, .mv (.t 0)⟩,
         ⟨some 28, none, .mv (.t 1)⟩,
         ⟨some 29, none, .bin .sub (.t 27) (.t 28)⟩,
         ⟨some 4, none, .mv (.t 29)⟩])
       .ret)))))) }
structure N282 (R : Env) : Prop where
  o282 : R.Fn 282 c282
  n279 : N279 R
  n280 : N280 R
end Go.UM

namespace Go.UM
open Go.AM
def c253 : IFn := { np := 2, rs := [.t 4], body :=
 (.seq
  (.ops [⟨some 2, none, .box 31 (.t 0)⟩,
    ⟨some 3, none, .box 31 (.t 1)⟩,
    ⟨some 4, none, .mv (.k (.int .i64 0))⟩])
  (.seq
   (.ops [⟨some 6, none, .fldA 0 (.t 2)⟩,
     ⟨some 7, none, .load false 1 (.t 6)⟩,
     ⟨some 8, none, .fldA 0 (.t 3)⟩,
     ⟨some 9, none, .load false 1 (.t 8)⟩,
     ⟨some 10, none, .call 268 [.t 7, .t 9]⟩,
     ⟨some 11, none, .call 269 [.k (.int .i64 0), .t 10]⟩,
     ⟨some 5, none, .mv (.t 11)⟩])
   (.keep [2, 3, 5]
    (.seq
     (.ops [⟨some 12, none, .mv (.t 5)⟩,
       ⟨some 13, none, .fldA 1 (.t 2)⟩,
       ⟨some 14, none, .load false 1 (.t 13)⟩,
       ⟨some 15, none, .fldA 1 (.t 3)⟩,
       ⟨some 16, none, .load false 1 (.t 15)⟩,
       ⟨some 17, none, .call 268 [.t 14, .t 16]⟩,
       ⟨some 18, none, .call 269 [.t 12, .t 17]⟩,
       ⟨some 5, none, .mv (.t 18)⟩])
     (.keep [2, 3, 5]
      (.seq
       (.ops [⟨some 19, none, .mv (.t 5)⟩,
         ⟨some 20, none, .fldA 2 (.t 2)⟩,
         ⟨some 21, none, .load false 1 (.t 20)⟩,
         ⟨some 22, none, .fldA 2 (.t 3)⟩,
         ⟨some 23, none, .load false 1 (.t 22)⟩,
         ⟨some 24, none, .call 268 [.t 21, .t 23]⟩,
         ⟨some 25, none, .call 269 [.t 19, .t 24]⟩,
         ⟨some 4, none, .mv (.t 25)⟩])
       (.keep [4]
        .ret))))))) }
structure N253 (R : Env) : Prop where
  o253 : R.Fn 253 c253
  n268 : N268 R
  n269 : N269 R
def c254 : IFn := { np := 2, rs := [.cell 4 true 3], body :=
 (.seq
  (.ops [⟨some 2, none, .box 31 (.t 0)⟩,
    ⟨some 3, none, .box 31 (.t 1)⟩,
    ⟨some 4, none, .alloc 31 [.int .i64 0, .int .i64 0, .int .i64 0]⟩])
  (.seq
   (.draw [0, 1, 0, 4, 15, 0, 32, 0, 128, 511, 0, 1024, 0, 4096, 16383, 32767, 65535] [[2], [5], [3], [7], [6, 8], [2], [10], [3], [12], [11, 13], [2], [15], [3], [17], [16, 18], [9, 14, 19], [4, 20]] [⟨some 5, none, .fldA 0 (.t 2)⟩,
     ⟨some 6, none, .load false 1 (.t 5)⟩,
     ⟨some 7, none, .fldA 0 (.t 3)⟩,
     ⟨some 8, none, .load false 1 (.t 7)⟩,
     ⟨some 9, none, .call 269 [.t 6, .t 8]⟩,
     ⟨some 10, none, .fldA 1 (.t 2)⟩,
     ⟨some 11, none, .load false 1 (.t 10)⟩,
     ⟨some 12, none, .fldA 1 (.t 3)⟩,
     ⟨some 13, none, .load false 1 (.t 12)⟩,
     ⟨some 14, none, .call 269 [.t 11, .t 13]⟩,
     ⟨some 15, none, .fldA 2 (.t 2)⟩,
     ⟨some 16, none, .load false 1 (.t 15)⟩,
     ⟨some 17, none, .fldA 2 (.t 3)⟩,
     ⟨some 18, none, .load false 1 (.t 17)⟩,
     ⟨some 19, none, .call 269 [.t 16, .t 18]⟩,
     ⟨some 20, none, .build [.int .i64 0, .int .i64 0, .int .i64 0] [(0, 1, .t 9), (1, 1, .t 14), (2, 1, .t 19)]⟩,
     ⟨none, none, .store 3 (.t 4) (.t 20)⟩])
   (.keep [4]
    .ret))) }
structure N254 (R : Env) : Prop where
  o254 : R.Fn 254 c254
  n269 : N269 R
def c271 : IFn := { np := 1, rs := [.t 2], body :=
 (.seq
  (.ops [⟨some 2, none, .mv (.k (.int .i64 0))⟩])
  (.seq
   (.seq
    (.ops [⟨some 3, none, .mv (.t 0)⟩,
      ⟨some 4, none, .bin .lss (.t 3) (.k (.int .i64 0))⟩])
    (.cond (.t 4)
     (.seq
      (.ops [⟨some 5, none, .mv (.t 0)⟩,
        ⟨some 6, none, .call 282 [.k (.int .i64 0), .t 5]⟩,
        ⟨some 2, none, .mv (.t 6)⟩])
      .ret)
     .skip))
   (.keep [0]
    (.seq
     (.ops [⟨some 7, none, .mv (.t 0)⟩,
       ⟨some 2, none, .mv (.t 7)⟩])
     .ret)))) }
structure N271 (R : Env) : Prop where
  o271 : R.Fn 271 c271
  n282 : N282 R
def c257 : IFn := { np := 1, rs := [.t 2], body :=
 (.seq
  (.ops [⟨some 1, none, .box 31 (.t 0)⟩,
    ⟨some 2, none, .mv (.k (.int .i64 0))⟩])
  (.seq
   (.ops [⟨some 4, none, .fldA 0 (.t 1)⟩,
     ⟨some 5, none, .load false 1 (.t 4)⟩,
     ⟨some 6, none, .call 271 [.t 5]⟩,
     ⟨some 3, none, .mv (.t 6)⟩])
   (.seq
    (.seq
     (.ops [⟨some 7, none, .fldA 1 (.t 1)⟩,
       ⟨some 8, none, .load false 1 (.t 7)⟩,
       ⟨some 9, none, .call 271 [.t 8]⟩,
       ⟨some 10, none, .mv (.t 3)⟩,
       ⟨some 11, none, .bin .gtr (.t 9) (.t 10)⟩])
     (.keep [1, 3, 11]
      (.cond (.t 11)
       (.ops [⟨some 12, none, .fldA 1 (.t 1)⟩,
         ⟨some 13, none, .load false 1 (.t 12)⟩,
         ⟨some 14, none, .call 271 [.t 13]⟩,
         ⟨some 3, none, .mv (.t 14)⟩])
       .skip)))
    (.keep [1, 3]
     (.seq
      (.seq
       (.ops [⟨some 15, none, .fldA 2 (.t 1)⟩,
         ⟨some 16, none, .load false 1 (.t 15)⟩,
         ⟨some 17, none, .call 271 [.t 16]⟩,
         ⟨some 18, none, .mv (.t 3)⟩,
         ⟨some 19, none, .bin .gtr (.t 17) (.t 18)⟩])
       (.keep [1, 3, 19]
        (.cond (.t 19)
         (.ops [⟨some 20, none, .fldA 2 (.t 1)⟩,
           ⟨some 21, none, .load false 1 (.t 20)⟩,
           ⟨some 22, none, .call 271 [.t 21]⟩,
           ⟨some 3, none, .mv (.t 22)⟩])
         .skip)))
      (.keep [3]
       (.seq
        (.ops [⟨some 23, none, .mv (.t 3)⟩,
          ⟨some 2, none, .mv (.t 23)⟩])
        .ret))))))) }
structure N257 (R : Env) : Prop where
  o257 : R.Fn 257 c257
  n271 : N271 R
end Go.UM

namespace Go.UM
open Go.AM
def c222 : IFn := { np := 0, rs := [.cell 0 true 12], body :=
 (.seq
  (.ops [⟨some 0, none, .alloc 33 [.int .i64 0, .int .i64 0, .int .i64 0, .int .i64 0, .int .i64 0, .int .i64 0, .int .i64 0, .int .i64 0, .int .i64 0, .int .i64 0, .int .i64 0, .int .i64 0]⟩])
  (.seq
   (.ops [⟨some 2, none, .build [.int .i64 0, .int .i64 0, .int .i64 0, .int .i64 0, .int .i64 0, .int .i64 0, .int .i64 0, .int .i64 0, .int .i64 0, .int .i64 0, .int .i64 0, .int .i64 0] []⟩,
     ⟨some 1, none, .alloc 33 [.int .i64 0, .int .i64 0, .int .i64 0, .int .i64 0, .int .i64 0, .int .i64 0, .int .i64 0, .int .i64 0, .int .i64 0, .int .i64 0, .int .i64 0, .int .i64 0]⟩,
     ⟨none, none, .store 12 (.t 1) (.t 2)⟩])
   (.seq
    (.ops [⟨some 3, none, .fldA 0 (.t 1)⟩,
      ⟨some 4, none, .idxA 9 1 (.t 3) (.k (.int .i64 0))⟩,
      ⟨none, none, .store 1 (.t 4) (.k (.int .i64 4294967296))⟩,
      ⟨some 5, none, .fldA 0 (.t 1)⟩,
      ⟨some 6, none, .idxA 9 1 (.t 5) (.k (.int .i64 4))⟩,
      ⟨none, none, .store 1 (.t 6) (.k (.int .i64 4294967296))⟩,
      ⟨some 7, none, .fldA 0 (.t 1)⟩,
      ⟨some 8, none, .idxA 9 1 (.t 7) (.k (.int .i64 8))⟩,
      ⟨none, none, .store 1 (.t 8) (.k (.int .i64 4294967296))⟩])
    (.keep [0, 1]
     (.seq
      (.ops [⟨some 9, none, .load true 12 (.t 1)⟩,
        ⟨none, none, .store 12 (.t 0) (.t 9)⟩])
      .ret))))) }
structure N222 (R : Env) : Prop where
  o222 : R.Fn 222 c222
def c228 : IFn := { np := 1, rs := [.cell 2 true 12], body :=
 (.seq
  (.ops [⟨some 2, none, .alloc 33 [.int .i64 0, .int .i64 0, .int .i64 0, .int .i64 0, .int .i64 0, .int .i64 0, .int .i64 0, .int .i64 0, .int .i64 0, .int .i64 0, .int .i64 0, .int .i64 0]⟩])
  (.seq
   (.ops [⟨some 5, none, .call 222 []⟩,
     ⟨some 3, none, .alloc 33 [.int .i64 0, .int .i64 0, .int .i64 0, .int .i64 0, .int .i64 0, .int .i64 0, .int .i64 0, .int .i64 0, .int .i64 0, .int .i64 0, .int .i64 0, .int .i64 0]⟩,
     ⟨none, none, .store 12 (.t 3) (.t 5)⟩])
   (.seq
    (.seq
     (.ops [⟨some 4, none, .mv (.k (.int .i64 0))⟩])
     (.keep [0, 2, 3, 4]
      (.block 0
       (.loop
        (.seq
         (.seq
          (.ops [⟨some 6, none, .mv (.t 4)⟩,
            ⟨some 7, none, .mv (.t 0)⟩,
            ⟨some 8, none, .lenS (.t 7)⟩,
            ⟨some 9, none, .bin .lss (.t 6) (.t 8)⟩,
            ⟨some 10, none, .mv (.t 9)⟩,
            ⟨some 11, some (10, true), .mv (.t 4)⟩,
            ⟨some 12, some (10, true), .bin .lss (.t 11) (.k (.int .i64 3))⟩,
            ⟨some 13, none, .pick (.t 10) (.t 12) (.k (.bool false))⟩])
          (.keep [0, 2, 3, 4, 13]
           (.cond (.t 13)
            .skip
            (.exit 0))))
         (.keep [0, 2, 3, 4]
          (.seq
           (.block 1
            (.seq
             (.ops [⟨some 16, none, .mv (.t 4)⟩,
               ⟨some 17, none, .mv (.t 0)⟩,
               ⟨some 18, none, .mv (.t 4)⟩,
               ⟨some 19, none, .idxS 3 (.t 17) (.t 18)⟩,
               ⟨some 20, none, .fldA 0 (.t 19)⟩,
               ⟨some 21, none, .load false 1 (.t 20)⟩,
               ⟨some 22, none, .fldA 0 (.t 3)⟩,
               ⟨some 23, none, .idxA 9 1 (.t 22) (.t 16)⟩,
               ⟨none, none, .store 1 (.t 23) (.t 21)⟩])
             (.keep [0, 2, 3, 4]
              (.seq
               (.ops [⟨some 24, none, .mv (.t 4)⟩,
                 ⟨some 25, none, .bin .add (.k (.int .i64 3)) (.t 24)⟩,
                 ⟨some 26, none, .mv (.t 0)⟩,
                 ⟨some 27, none, .mv (.t 4)⟩,
                 ⟨some 28, none, .idxS 3 (.t 26) (.t 27)⟩,
                 ⟨some 29, none, .fldA 1 (.t 28)⟩,
                 ⟨some 30, none, .load false 1 (.t 29)⟩,
                 ⟨some 31, none, .fldA 0 (.t 3)⟩,
                 ⟨some 32, none, .idxA 9 1 (.t 31) (.t 25)⟩,
                 ⟨none, none, .store 1 (.t 32) (.t 30)⟩])
               (.keep [0, 2, 3, 4]
                (.ops [⟨some 33, none, .mv (.t 4)⟩,
                  ⟨some 34, none, .bin .add (.k (.int .i64 6)) (.t 33)⟩,
                  ⟨some 35, none, .mv (.t 0)⟩,
                  ⟨some 36, none, .mv (.t 4)⟩,
                  ⟨some 37, none, .idxS 3 (.t 35) (.t 36)⟩,
                  ⟨some 38, none, .fldA 2 (.t 37)⟩,
                  ⟨some 39, none, .load false 1 (.t 38)⟩,
                  ⟨some 40, none, .fldA 0 (.t 3)⟩,
                  ⟨some 41, none, .idxA 9 1 (.t 40) (.t 34)⟩,
                  ⟨none, none, .store 1 (.t 41) (.t 39)⟩]))))))
           (.keep [0, 2, 3, 4]
            (.ops [⟨some 14, none, .mv (.t 4)⟩,
              ⟨some 15, none, .bin .add (.t 14) (.k (.int .i64 1))⟩,
              ⟨some 4, none, .mv (.t 15)⟩])))))))))
    (.keep [0, 2, 3]
     (.seq
      (.seq
       (.ops [⟨some 42, none, .mv (.t 0)⟩,
         ⟨some 43, none, .lenS (.t 42)⟩,
         ⟨some 44, none, .bin .gtr (.t 43) (.k (.int .i64 3))⟩])
       (.cond (.t 44)
        (.ops [⟨some 45, none, .mv (.t 0)⟩,
          ⟨some 46, none, .idxS 3 (.t 45) (.k (.int .i64 3))⟩,
          ⟨some 47, none, .load true 3 (.t 46)⟩,
          ⟨some 48, none, .fldA 9 (.t 3)⟩,
          ⟨none, none, .store 3 (.t 48) (.t 47)⟩])
        .skip))
      (.keep [2, 3]
       (.seq
        (.ops [⟨some 49, none, .load true 12 (.t 3)⟩,
          ⟨none, none, .store 12 (.t 2) (.t 49)⟩])
        .ret))))))) }
structure N228 (R : Env) : Prop where
  o228 : R.Fn 228 c228
  n222 : N222 R
def c232 : IFn := { np := 2, rs := [.cell 4 true 3], body :=
 (.seq
  (.ops [⟨some 2, none, .box 33 (.t 0)⟩,
    ⟨some 3, none, .box 31 (.t 1)⟩,
    ⟨some 4, none, .alloc 31 [.int .i64 0, .int .i64 0, .int .i64 0]⟩])
  (.seq
   (.ops [⟨some 5, none, .mv (.k (.nils))⟩])
   (.seq
    (.seq
     (.ops [⟨some 6, none, .mv (.k (.int .i64 0))⟩])
     (.keep [2, 3, 4, 5, 6]
      (.block 0
       (.loop
        (.seq
         (.seq
          (.ops [⟨some 7, none, .mv (.t 6)⟩,
            ⟨some 8, none, .bin .lss (.t 7) (.k (.int .i64 3))⟩])
          (.cond (.t 8)
           .skip
           (.exit 0)))
         (.keep [2, 3, 4, 5, 6]
          (.seq
           (.block 1
            (.draw [0, 0, 2, 0, 14, 30, 0, 64, 192, 0, 960, 1984, 0, 4096, 12288, 0, 61440, 126976, 262142, 0, 1048574, 2097150, 4194303, 8388607] [[5], [6], [12], [2], [14, 13], [15], [6], [17], [18], [2], [20, 19], [21], [6], [23], [24], [2], [26, 25], [27], [16, 22, 28], [3], [29, 30], [31], [11, 32], [33]] [⟨some 11, none, .mv (.t 5)⟩,
              ⟨some 12, none, .mv (.t 6)⟩,
              ⟨some 13, none, .bin .mul (.k (.int .i64 3)) (.t 12)⟩,
              ⟨some 14, none, .fldA 0 (.t 2)⟩,
              ⟨some 15, none, .idxA 9 1 (.t 14) (.t 13)⟩,
              ⟨some 16, none, .load false 1 (.t 15)⟩,
              ⟨some 17, none, .mv (.t 6)⟩,
              ⟨some 18, none, .bin .mul (.k (.int .i64 3)) (.t 17)⟩,
              ⟨some 19, none, .bin .add (.t 18) (.k (.int .i64 1))⟩,
              ⟨some 20, none, .fldA 0 (.t 2)⟩,
              ⟨some 21, none, .idxA 9 1 (.t 20) (.t 19)⟩,
              ⟨some 22, none, .load false 1 (.t 21)⟩,
              ⟨some 23, none, .mv (.t 6)⟩,
              ⟨some 24, none, .bin .mul (.k (.int .i64 3)) (.t 23)⟩,
              ⟨some 25, none, .bin .add (.t 24) (.k (.int .i64 2))⟩,
              ⟨some 26, none, .fldA 0 (.t 2)⟩,
              ⟨some 27, none, .idxA 9 1 (.t 26) (.t 25)⟩,
              ⟨some 28, none, .load false 1 (.t 27)⟩,
              ⟨some 29, none, .build [.int .i64 0, .int .i64 0, .int .i64 0] [(0, 1, .t 16), (1, 1, .t 22), (2, 1, .t 28)]⟩,
              ⟨some 30, none, .load true 3 (.t 3)⟩,
              ⟨some 31, none, .call 253 [.t 29, .t 30]⟩,
              ⟨some 32, none, .bslice 32 1 1 [.int .i64 0] [(0, .t 31)]⟩,
              ⟨some 33, none, .app 32 1 (.t 11) (.t 32)⟩,
              ⟨some 5, none, .mv (.t 33)⟩]))
           (.keep [2, 3, 4, 5, 6]
            (.ops [⟨some 9, none, .mv (.t 6)⟩,
              ⟨some 10, none, .bin .add (.t 9) (.k (.int .i64 1))⟩,
              ⟨some 6, none, .mv (.t 10)⟩])))))))))
    (.keep [4, 5]
     (.seq
      (.draw [0, 1, 3, 0, 8, 24, 0, 64, 192, 511, 1023] [[5], [34], [35], [5], [37], [38], [5], [40], [41], [36, 39, 42], [4, 43]] [⟨some 34, none, .mv (.t 5)⟩,
        ⟨some 35, none, .idxS 1 (.t 34) (.k (.int .i64 0))⟩,
        ⟨some 36, none, .load false 1 (.t 35)⟩,
        ⟨some 37, none, .mv (.t 5)⟩,
        ⟨some 38, none, .idxS 1 (.t 37) (.k (.int .i64 1))⟩,
        ⟨some 39, none, .load false 1 (.t 38)⟩,
        ⟨some 40, none, .mv (.t 5)⟩,
        ⟨some 41, none, .idxS 1 (.t 40) (.k (.int .i64 2))⟩,
        ⟨some 42, none, .load false 1 (.t 41)⟩,
        ⟨some 43, none, .build [.int .i64 0, .int .i64 0, .int .i64 0] [(0, 1, .t 36), (1, 1, .t 39), (2, 1, .t 42)]⟩,
        ⟨none, none, .store 3 (.t 4) (.t 43)⟩])
      (.keep [4]
       .ret)))))) }
structure N232 (R : Env) : Prop where
  o232 : R.Fn 232 c232
  n253 : N253 R
def c234 : IFn := { np := 2, rs := [.cell 4 true 3], body :=
 (.seq
  (.ops [⟨some 2, none, .box 33 (.t 0)⟩,
    ⟨some 3, none, .box 31 (.t 1)⟩,
    ⟨some 4, none, .alloc 31 [.int .i64 0, .int .i64 0, .int .i64 0]⟩])
  (.seq
   (.draw [0, 0, 3, 0, 8, 31, 63] [[2], [3], [5, 6], [2], [8], [7, 9], [4, 10]] [⟨some 5, none, .load true 12 (.t 2)⟩,
     ⟨some 6, none, .load true 3 (.t 3)⟩,
     ⟨some 7, none, .call 232 [.t 5, .t 6]⟩,
     ⟨some 8, none, .fldA 9 (.t 2)⟩,
     ⟨some 9, none, .load true 3 (.t 8)⟩,
     ⟨some 10, none, .call 254 [.t 7, .t 9]⟩,
     ⟨none, none, .store 3 (.t 4) (.t 10)⟩])
   (.keep [4]
    .ret))) }
structure N234 (R : Env) : Prop where
  o234 : R.Fn 234 c234
  n232 : N232 R
  n254 : N254 R
def c236 : IFn := { np := 1, rs := [.t 2], body :=
 (.seq
  (.ops [⟨some 1, none, .box 33 (.t 0)⟩,
    ⟨some 2, none, .mv (.k (.int .i64 0))⟩])
  (.seq
   (.seq
    (.ops [⟨some 3, none, .mv (.k (.int .i64 0))⟩])
    (.keep [1, 3]
     (.block 0
      (.loop
       (.seq
        (.seq
         (.ops [⟨some 4, none, .mv (.t 3)⟩,
           ⟨some 5, none, .bin .lss (.t 4) (.k (.int .i64 9))⟩])
         (.cond (.t 5)
          .skip
          (.exit 0)))
        (.keep [1, 3]
         (.seq
          (.block 1
           (.seq
            (.ops [⟨some 8, none, .mv (.t 3)⟩,
              ⟨some 9, none, .fldA 0 (.t 1)⟩,
              ⟨some 10, none, .idxA 9 1 (.t 9) (.t 8)⟩,
              ⟨some 11, none, .load false 1 (.t 10)⟩,
              ⟨some 12, none, .bin .gtr (.t 11) (.k (.int .i64 1099511627776))⟩,
              ⟨some 13, none, .mv (.t 12)⟩,
              ⟨some 14, some (13, false), .mv (.t 3)⟩,
              ⟨some 15, some (13, false), .fldA 0 (.t 1)⟩,
              ⟨some 16, some (13, false), .idxA 9 1 (.t 15) (.t 14)⟩,
              ⟨some 17, some (13, false), .load false 1 (.t 16)⟩,
              ⟨some 18, some (13, false), .bin .lss (.t 17) (.k (.int .i64 (-1099511627776)))⟩,
              ⟨some 19, none, .pick (.t 13) (.k (.bool true)) (.t 18)⟩])
            (.keep [1, 3, 19]
             (.cond (.t 19)
              (.seq
               (.ops [⟨some 2, none, .mv (.k (.int .i64 2))⟩])
               .ret)
              .skip))))
          (.keep [1, 3]
           (.ops [⟨some 6, none, .mv (.t 3)⟩,
             ⟨some 7, none, .bin .add (.t 6) (.k (.int .i64 1))⟩,
             ⟨some 3, none, .mv (.t 7)⟩])))))))))
   (.keep [1]
    (.seq
     (.seq
      (.ops [⟨some 20, none, .fldA 9 (.t 1)⟩,
        ⟨some 21, none, .load true 3 (.t 20)⟩,
        ⟨some 22, none, .call 257 [.t 21]⟩,
        ⟨some 23, none, .bin .gtr (.t 22) (.k (.int .i64 562949953421312))⟩])
      (.cond (.t 23)
       (.seq
        (.ops [⟨some 2, none, .mv (.k (.int .i64 2))⟩])
        .ret)
       .skip))
     (.keep []
      (.seq
       (.ops [⟨some 2, none, .mv (.k (.int .i64 0))⟩])
       .ret)))))) }
structure N236 (R : Env) : Prop where
  o236 : R.Fn 236 c236
  n257 : N257 R
def c239 : IFn := { np := 1, rs := [.cell 2 true 12], body :=
 (.seq
  (.ops [⟨some 2, none, .alloc 33 [.int .i64 0, .int .i64 0, .int .i64 0, .int .i64 0, .int .i64 0, .int .i64 0, .int .i64 0, .int .i64 0, .int .i64 0, .int .i64 0, .int .i64 0, .int .i64 0]⟩])
  (.seq
   (.seq
    (.ops [⟨some 7, none, .mv (.t 0)⟩,
      ⟨some 8, none, .lenS (.t 7)⟩,
      ⟨some 9, none, .bin .eql (.t 8) (.k (.int .i64 0))⟩])
    (.cond (.t 9)
     (.seq
      (.ops [⟨some 10, none, .call 222 []⟩,
        ⟨none, none, .store 12 (.t 2) (.t 10)⟩])
      .ret)
     .skip))
   (.keep [0, 2]
    (.seq
     (.ops [⟨some 11, none, .mv (.t 0)⟩,
       ⟨some 12, none, .idxS 12 (.t 11) (.k (.int .i64 0))⟩,
       ⟨some 13, none, .load true 12 (.t 12)⟩,
       ⟨some 3, none, .alloc 33 [.int .i64 0, .int .i64 0, .int .i64 0, .int .i64 0, .int .i64 0, .int .i64 0, .int .i64 0, .int .i64 0, .int .i64 0, .int .i64 0, .int .i64 0, .int .i64 0]⟩,
       ⟨none, none, .store 12 (.t 3) (.t 13)⟩])
     (.keep [0, 2, 3]
      (.seq
       (.seq
        (.ops [⟨some 4, none, .mv (.k (.int .i64 1))⟩])
        (.keep [0, 2, 3, 4]
         (.block 0
          (.loop
           (.seq
            (.seq
             (.ops [⟨some 14, none, .mv (.t 4)⟩,
               ⟨some 15, none, .mv (.t 0)⟩,
               ⟨some 16, none, .lenS (.t 15)⟩,
               ⟨some 17, none, .bin .lss (.t 14) (.t 16)⟩])
             (.cond (.t 17)
              .skip
              (.exit 0)))
            (.keep [0, 2, 3, 4]
             (.seq
              (.block 1
               (.seq
                (.ops [⟨some 5, none, .mv (.k (.nils))⟩])
                (.seq
                 (.seq
                  (.ops [⟨some 6, none, .mv (.k (.int .i64 0))⟩])
                  (.keep [0, 2, 3, 4, 5, 6]
                   (.block 2
                    (.loop
                     (.seq
                      (.seq
                       (.ops [⟨some 20, none, .mv (.t 6)⟩,
                         ⟨some 21, none, .bin .lss (.t 20) (.k (.int .i64 3))⟩])
                       (.cond (.t 21)
                        .skip
                        (.exit 2)))
                      (.keep [0, 2, 3, 4, 5, 6]
                       (.seq
                        (.block 3
                         (.draw [0, 0, 0, 6, 14, 0, 0, 96, 224, 0, 512, 0, 3584, 7680, 0, 16384, 0, 114688, 245760, 524256, 1048574, 2097150, 4194303, 8388607] [[5], [0], [4], [25, 26], [27], [6], [3], [30, 29], [31], [6], [33], [3], [35, 34], [36], [6], [38], [3], [40, 39], [41], [32, 37, 42], [28, 43], [44], [24, 45], [46]] [⟨some 24, none, .mv (.t 5)⟩,
                           ⟨some 25, none, .mv (.t 0)⟩,
                           ⟨some 26, none, .mv (.t 4)⟩,
                           ⟨some 27, none, .idxS 12 (.t 25) (.t 26)⟩,
                           ⟨some 28, none, .load true 12 (.t 27)⟩,
                           ⟨some 29, none, .mv (.t 6)⟩,
                           ⟨some 30, none, .fldA 0 (.t 3)⟩,
                           ⟨some 31, none, .idxA 9 1 (.t 30) (.t 29)⟩,
                           ⟨some 32, none, .load false 1 (.t 31)⟩,
                           ⟨some 33, none, .mv (.t 6)⟩,
                           ⟨some 34, none, .bin .add (.k (.int .i64 3)) (.t 33)⟩,
                           ⟨some 35, none, .fldA 0 (.t 3)⟩,
                           ⟨some 36, none, .idxA 9 1 (.t 35) (.t 34)⟩,
                           ⟨some 37, none, .load false 1 (.t 36)⟩,
                           ⟨some 38, none, .mv (.t 6)⟩,
                           ⟨some 39, none, .bin .add (.k (.int .i64 6)) (.t 38)⟩,
                           ⟨some 40, none, .fldA 0 (.t 3)⟩,
                           ⟨some 41, none, .idxA 9 1 (.t 40) (.t 39)⟩,
                           ⟨some 42, none, .load false 1 (.t 41)⟩,
                           ⟨some 43, none, .build [.int .i64 0, .int .i64 0, .int .i64 0] [(0, 1, .t 32), (1, 1, .t 37), (2, 1, .t 42)]⟩,
                           ⟨some 44, none, .call 232 [.t 28, .t 43]⟩,
                           ⟨some 45, none, .bslice 31 3 1 [.int .i64 0, .int .i64 0, .int .i64 0] [(0, .t 44)]⟩,
                           ⟨some 46, none, .app 31 3 (.t 24) (.t 45)⟩,
                           ⟨some 5, none, .mv (.t 46)⟩]))
                        (.keep [0, 2, 3, 4, 5, 6]
                         (.ops [⟨some 22, none, .mv (.t 6)⟩,
                           ⟨some 23, none, .bin .add (.t 22) (.k (.int .i64 1))⟩,
                           ⟨some 6, none, .mv (.t 23)⟩])))))))))
                 (.keep [0, 2, 3, 4, 5]
                  (.draw [0, 0, 0, 6, 14, 0, 32, 126, 254, 511, 1023, 2047] [[5], [0], [4], [48, 49], [50], [3], [52], [51, 53], [54], [47, 55], [56], [3, 57]] [⟨some 47, none, .mv (.t 5)⟩,
                    ⟨some 48, none, .mv (.t 0)⟩,
                    ⟨some 49, none, .mv (.t 4)⟩,
                    ⟨some 50, none, .idxS 12 (.t 48) (.t 49)⟩,
                    ⟨some 51, none, .load true 12 (.t 50)⟩,
                    ⟨some 52, none, .fldA 9 (.t 3)⟩,
                    ⟨some 53, none, .load true 3 (.t 52)⟩,
                    ⟨some 54, none, .call 234 [.t 51, .t 53]⟩,
                    ⟨some 55, none, .bslice 31 3 1 [.int .i64 0, .int .i64 0, .int .i64 0] [(0, .t 54)]⟩,
                    ⟨some 56, none, .app 31 3 (.t 47) (.t 55)⟩,
                    ⟨some 57, none, .call 228 [.t 56]⟩,
                    ⟨none, none, .store 12 (.t 3) (.t 57)⟩])))))
              (.keep [0, 2, 3, 4]
               (.ops [⟨some 18, none, .mv (.t 4)⟩,
                 ⟨some 19, none, .bin .add (.t 18) (.k (.int .i64 1))⟩,
                 ⟨some 4, none, .mv (.t 19)⟩])))))))))
       (.keep [2, 3]
        (.seq
         (.ops [⟨some 58, none, .load true 12 (.t 3)⟩,
           ⟨none, none, .store 12 (.t 2) (.t 58)⟩])
         .ret)))))))) }
structure N239 (R : Env) : Prop where
  o239 : R.Fn 239 c239
  n222 : N222 R
  n228 : N228 R
  n232 : N232 R
  n234 : N234 R
end Go.UM

namespace Go.UM
open Go.AM
end Go.UM

namespace Go.UM
open Go.AM
end Go.UM

namespace Go.UM
open Go.AM
end Go.UM

namespace Go.UM
open Go.AM
def c336 : IFn := { np := 2, rs := [.t 4], body :=
 (.seq
  (.ops [⟨some 4, none, .mv (.k (.int .i64 0))⟩])
  (.seq
   (.seq
    (.ops [⟨some 5, none, .mv (.t 0)⟩,
      ⟨some 6, none, .mv (.t 1)⟩,
      ⟨some 7, none, .idxS 16 (.t 5) (.t 6)⟩,
      ⟨some 8, none, .fldA 0 (.t 7)⟩,
      ⟨some 9, none, .load false 1 (.t 8)⟩,
      ⟨some 10, none, .bin .lss (.t 9) (.k (.int .i64 0))⟩])
    (.keep [0, 1, 10]
     (.cond (.t 10)
      (.seq
       (.ops [⟨some 4, none, .mv (.k (.int .i64 1))⟩])
       .ret)
      .skip)))
   (.keep [0, 1]
    (.seq
     (.ops [⟨some 11, none, .mv (.t 0)⟩,
       ⟨some 12, none, .mv (.t 0)⟩,
       ⟨some 13, none, .mv (.t 1)⟩,
       ⟨some 14, none, .idxS 16 (.t 12) (.t 13)⟩,
       ⟨some 15, none, .fldA 0 (.t 14)⟩,
       ⟨some 16, none, .load false 1 (.t 15)⟩,
       ⟨some 17, none, .call 336 [.t 11, .t 16]⟩,
       ⟨some 18, none, .bin .add (.k (.int .i64 1)) (.t 17)⟩,
       ⟨some 4, none, .mv (.t 18)⟩])
     (.keep [4]
      .ret))))) }
structure N336 (R : Env) : Prop where
  o336 : R.Fn 336 c336
def c351 : IFn := { np := 1, rs := [.t 2], body :=
 (.seq
  (.ops [⟨some 2, none, .mv (.k (.bool false))⟩])
  (.seq
   (.ops [⟨some 3, none, .mv (.t 0)⟩,
     ⟨some 4, none, .bin .geq (.t 3) (.k (.int .i64 0))⟩,
     ⟨some 5, none, .mv (.t 4)⟩,
     ⟨some 6, some (5, true), .mv (.t 0)⟩,
     ⟨some 7, some (5, true), .bin .leq (.t 6) (.k (.int .i64 65536))⟩,
     ⟨some 8, none, .pick (.t 5) (.t 7) (.k (.bool false))⟩,
     ⟨some 2, none, .mv (.t 8)⟩])
   (.keep [2]
    .ret))) }
structure N351 (R : Env) : Prop where
  o351 : R.Fn 351 c351
def c334 : IFn := { np := 1, rs := [.t 2], body :=
 (.seq
  (.ops [⟨some 2, none, .mv (.k (.int .i64 0))⟩])
  (.seq
   (.seq
    (.ops [⟨some 6, none, .mv (.t 0)⟩,
      ⟨some 7, none, .lenS (.t 6)⟩,
      ⟨some 8, none, .bin .gtr (.t 7) (.k (.int .i64 256))⟩])
    (.cond (.t 8)
     (.seq
      (.ops [⟨some 2, none, .mv (.k (.int .i64 3))⟩])
      .ret)
     .skip))
   (.keep [0]
    (.seq
     (.seq
      (.ops [⟨some 3, none, .mv (.k (.int .i64 0))⟩])
      (.keep [0, 3]
       (.block 0
        (.loop
         (.seq
          (.seq
           (.ops [⟨some 9, none, .mv (.t 3)⟩,
             ⟨some 10, none, .mv (.t 0)⟩,
             ⟨some 11, none, .lenS (.t 10)⟩,
             ⟨some 12, none, .bin .lss (.t 9) (.t 11)⟩])
           (.cond (.t 12)
            .skip
            (.exit 0)))
          (.keep [0, 3]
           (.seq
            (.block 1
             (.seq
              (.ops [⟨some 15, none, .mv (.t 0)⟩,
                ⟨some 16, none, .mv (.t 3)⟩,
                ⟨some 17, none, .idxS 16 (.t 15) (.t 16)⟩,
                ⟨some 18, none, .load true 16 (.t 17)⟩,
                ⟨some 4, none, .alloc 43 [.int .i64 0, .int .i64 0, .int .i64 0, .int .i64 0, .int .i64 0, .int .i64 0, .int .i64 0, .int .i64 0, .int .i64 0, .int .i64 0, .int .i64 0, .int .i64 0, .int .i64 0, .int .i64 0, .int .i64 0, .int .i64 0]⟩,
                ⟨none, none, .store 16 (.t 4) (.t 18)⟩])
              (.keep [0, 3, 4]
               (.seq
                (.seq
                 (.ops [⟨some 19, none, .fldA 0 (.t 4)⟩,
                   ⟨some 20, none, .load false 1 (.t 19)⟩,
                   ⟨some 21, none, .bin .lss (.t 20) (.k (.int .i64 (-1)))⟩,
                   ⟨some 22, none, .mv (.t 21)⟩,
                   ⟨some 23, some (22, false), .fldA 0 (.t 4)⟩,
                   ⟨some 24, some (22, false), .load false 1 (.t 23)⟩,
                   ⟨some 25, some (22, false), .mv (.t 3)⟩,
                   ⟨some 26, some (22, false), .bin .geq (.t 24) (.t 25)⟩,
                   ⟨some 27, none, .pick (.t 22) (.k (.bool true)) (.t 26)⟩,
                   ⟨some 28, none, .mv (.t 27)⟩,
                   ⟨some 29, some (28, false), .fldA 13 (.t 4)⟩,
                   ⟨some 30, some (28, false), .load false 1 (.t 29)⟩,
                   ⟨some 31, some (28, false), .call 351 [.t 30]⟩,
                   ⟨some 32, some (28, false), .un .not (.t 31)⟩,
                   ⟨some 33, none, .pick (.t 28) (.k (.bool true)) (.t 32)⟩,
                   ⟨some 34, none, .mv (.t 33)⟩,
                   ⟨some 35, some (34, false), .fldA 14 (.t 4)⟩,
                   ⟨some 36, some (34, false), .load false 1 (.t 35)⟩,
                   ⟨some 37, some (34, false), .call 351 [.t 36]⟩,
                   ⟨some 38, some (34, false), .un .not (.t 37)⟩,
                   ⟨some 39, none, .pick (.t 34) (.k (.bool true)) (.t 38)⟩,
                   ⟨some 40, none, .mv (.t 39)⟩,
                   ⟨some 41, some (40, false), .fldA 15 (.t 4)⟩,
                   ⟨some 42, some (40, false), .load false 1 (.t 41)⟩,
                   ⟨some 43, some (40, false), .call 351 [.t 42]⟩,
                   ⟨some 44, some (40, false), .un .not (.t 43)⟩,
                   ⟨some 45, none, .pick (.t 40) (.k (.bool true)) (.t 44)⟩,
                   ⟨some 46, none, .mv (.t 45)⟩,
                   ⟨some 47, some (46, false), .fldA 13 (.t 4)⟩,
                   ⟨some 48, some (46, false), .load false 1 (.t 47)⟩,
                   ⟨some 49, some (46, false), .bin .eql (.t 48) (.k (.int .i64 0))⟩,
                   ⟨some 50, some (46, false), .mv (.t 49)⟩,
                   ⟨some 51, some (50, true), .fldA 14 (.t 4)⟩,
                   ⟨some 52, some (50, true), .load false 1 (.t 51)⟩,
                   ⟨some 53, some (50, true), .bin .neq (.t 52) (.k (.int .i64 0))⟩,
                   ⟨some 54, some (50, true), .mv (.t 53)⟩,
                   ⟨some 55, some (54, false), .fldA 15 (.t 4)⟩,
                   ⟨some 56, some (54, false), .load false 1 (.t 55)⟩,
                   ⟨some 57, some (54, false), .bin .neq (.t 56) (.k (.int .i64 0))⟩,
                   ⟨some 58, some (50, true), .pick (.t 54) (.k (.bool true)) (.t 57)⟩,
                   ⟨some 59, some (46, false), .pick (.t 50) (.t 58) (.k (.bool false))⟩,
                   ⟨some 60, none, .pick (.t 46) (.k (.bool true)) (.t 59)⟩])
                 (.keep [0, 3, 4, 60]
                  (.cond (.t 60)
                   (.seq
                    (.ops [⟨some 2, none, .mv (.k (.int .i64 5))⟩])
                    .ret)
                   .skip)))
                (.keep [0, 3, 4]
                 (.seq
                  (.seq
                   (.ops [⟨some 61, none, .mv (.t 0)⟩,
                     ⟨some 62, none, .mv (.t 3)⟩,
                     ⟨some 63, none, .call 336 [.t 61, .t 62]⟩,
                     ⟨some 64, none, .bin .gtr (.t 63) (.k (.int .i64 16))⟩])
                   (.cond (.t 64)
                    (.seq
                     (.ops [⟨some 2, none, .mv (.k (.int .i64 3))⟩])
                     .ret)
                    .skip))
                  (.keep [0, 3, 4]
                   (.seq
                    (.ops [⟨some 65, none, .fldA 1 (.t 4)⟩,
                      ⟨some 66, none, .load true 12 (.t 65)⟩,
                      ⟨some 67, none, .call 236 [.t 66]⟩,
                      ⟨some 5, none, .mv (.t 67)⟩])
                    (.seq
                     (.ops [⟨some 68, none, .mv (.t 5)⟩,
                       ⟨some 69, none, .bin .neq (.t 68) (.k (.int .i64 0))⟩])
                     (.cond (.t 69)
                      (.seq
                       (.ops [⟨some 70, none, .mv (.t 5)⟩,
                         ⟨some 2, none, .mv (.t 70)⟩])
                       .ret)
                      .skip))))))))))
            (.keep [0, 3]
             (.ops [⟨some 13, none, .mv (.t 3)⟩,
               ⟨some 14, none, .bin .add (.t 13) (.k (.int .i64 1))⟩,
               ⟨some 3, none, .mv (.t 14)⟩])))))))))
     (.keep []
      (.seq
       (.ops [⟨some 2, none, .mv (.k (.int .i64 0))⟩])
       .ret)))))) }
structure N334 (R : Env) : Prop where
  o334 : R.Fn 334 c334
  n236 : N236 R
  n336 : N336 R
  n351 : N351 R
def c335 : IFn := { np := 3, rs := [.t 6], body :=
 (.seq
  (.ops [⟨some 6, none, .mv (.k (.bool false))⟩])
  (.keep [0, 1, 2]
   (.seq
    (.block 0
     (.loop
      (.seq
       (.seq
        (.ops [⟨some 7, none, .mv (.t 1)⟩,
          ⟨some 8, none, .bin .geq (.t 7) (.k (.int .i64 0))⟩])
        (.cond (.t 8)
         .skip
         (.exit 0)))
       (.keep [0, 1, 2]
        (.block 1
         (.seq
          (.ops [⟨some 9, none, .mv (.t 0)⟩,
            ⟨some 10, none, .mv (.t 1)⟩,
            ⟨some 11, none, .idxS 16 (.t 9) (.t 10)⟩,
            ⟨some 12, none, .fldA 0 (.t 11)⟩,
            ⟨some 13, none, .load false 1 (.t 12)⟩,
            ⟨some 1, none, .mv (.t 13)⟩])
          (.keep [0, 1, 2]
           (.seq
            (.ops [⟨some 14, none, .mv (.t 1)⟩,
              ⟨some 15, none, .mv (.t 2)⟩,
              ⟨some 16, none, .bin .eql (.t 14) (.t 15)⟩,
              ⟨some 17, none, .mv (.t 16)⟩,
              ⟨some 18, some (17, true), .mv (.t 1)⟩,
              ⟨some 19, some (17, true), .bin .geq (.t 18) (.k (.int .i64 0))⟩,
              ⟨some 20, none, .pick (.t 17) (.t 19) (.k (.bool false))⟩])
            (.keep [0, 1, 2, 20]
             (.cond (.t 20)
              (.seq
               (.ops [⟨some 6, none, .mv (.k (.bool true))⟩])
               .ret)
              .skip))))))))))
    (.keep []
     (.seq
      (.ops [⟨some 6, none, .mv (.k (.bool false))⟩])
      .ret))))) }
structure N335 (R : Env) : Prop where
  o335 : R.Fn 335 c335
def c337 : IFn := { np := 2, rs := [.cell 4 true 12], body :=
 (.seq
  (.ops [⟨some 4, none, .alloc 33 [.int .i64 0, .int .i64 0, .int .i64 0, .int .i64 0, .int .i64 0, .int .i64 0, .int .i64 0, .int .i64 0, .int .i64 0, .int .i64 0, .int .i64 0, .int .i64 0]⟩])
  (.seq
   (.ops [⟨some 5, none, .mv (.k (.nils))⟩])
   (.keep [0, 1, 4, 5]
    (.seq
     (.block 0
      (.loop
       (.seq
        (.seq
         (.ops [⟨some 6, none, .mv (.t 1)⟩,
           ⟨some 7, none, .bin .geq (.t 6) (.k (.int .i64 0))⟩])
         (.cond (.t 7)
          .skip
          (.exit 0)))
        (.keep [0, 1, 4, 5]
         (.block 1
          (.seq
           (.ops [⟨some 8, none, .mv (.t 5)⟩,
             ⟨some 9, none, .mv (.t 0)⟩,
             ⟨some 10, none, .mv (.t 1)⟩,
             ⟨some 11, none, .idxS 16 (.t 9) (.t 10)⟩,
             ⟨some 12, none, .fldA 1 (.t 11)⟩,
             ⟨some 13, none, .load true 12 (.t 12)⟩,
             ⟨some 14, none, .bslice 33 12 1 [.int .i64 0, .int .i64 0, .int .i64 0, .int .i64 0, .int .i64 0, .int .i64 0, .int .i64 0, .int .i64 0, .int .i64 0, .int .i64 0, .int .i64 0, .int .i64 0] [(0, .t 13)]⟩,
             ⟨some 15, none, .app 33 12 (.t 8) (.t 14)⟩,
             ⟨some 5, none, .mv (.t 15)⟩])
           (.keep [0, 1, 4, 5]
            (.ops [⟨some 16, none, .mv (.t 0)⟩,
              ⟨some 17, none, .mv (.t 1)⟩,
              ⟨some 18, none, .idxS 16 (.t 16) (.t 17)⟩,
              ⟨some 19, none, .fldA 0 (.t 18)⟩,
              ⟨some 20, none, .load false 1 (.t 19)⟩,
              ⟨some 1, none, .mv (.t 20)⟩]))))))))
     (.keep [4, 5]
      (.seq
       (.ops [⟨some 21, none, .mv (.t 5)⟩,
         ⟨some 22, none, .call 239 [.t 21]⟩,
         ⟨none, none, .store 12 (.t 4) (.t 22)⟩])
       .ret)))))) }
structure N337 (R : Env) : Prop where
  o337 : R.Fn 337 c337
  n239 : N239 R
end Go.UM

namespace Go.UM
open Go.AM
def c326 : IFn := { np := 1, rs := [.t 2], body :=
 (.seq
  (.ops [⟨some 2, none, .mv (.k (.nils))⟩])
  (.seq
   (.ops [⟨some 3, none, .mv (.t 0)⟩,
     ⟨some 4, none, .mv (.t 0)⟩,
     ⟨some 5, none, .lenS (.t 4)⟩,
     ⟨some 6, none, .mm false [.t 5, .k (.int .i64 30)]⟩,
     ⟨some 7, none, .slcS 43 16 (.t 3) none (some (.t 6)) none⟩,
     ⟨some 2, none, .mv (.t 7)⟩])
   (.keep [2]
    .ret))) }
structure N326 (R : Env) : Prop where
  o326 : R.Fn 326 c326
def c349 : IFn := { np := 3, rs := [.cell 6 true 12], body :=
 (.seq
  (.ops [⟨some 6, none, .alloc 33 [.int .i64 0, .int .i64 0, .int .i64 0, .int .i64 0, .int .i64 0, .int .i64 0, .int .i64 0, .int .i64 0, .int .i64 0, .int .i64 0, .int .i64 0, .int .i64 0]⟩])
  (.seq
   (.ops [⟨some 7, none, .mv (.t 0)⟩,
     ⟨some 8, none, .mv (.t 1)⟩,
     ⟨some 9, none, .mv (.t 2)⟩,
     ⟨some 10, none, .build [.int .i64 0, .int .i64 0, .int .i64 0] [(0, 1, .t 7), (1, 1, .t 8), (2, 1, .t 9)]⟩,
     ⟨some 11, none, .call 249 [.t 10]⟩,
     ⟨some 12, none, .call 223 [.t 11]⟩,
     ⟨none, none, .store 12 (.t 6) (.t 12)⟩])
   (.keep [6]
    .ret))) }
structure N349 (R : Env) : Prop where
  o349 : R.Fn 349 c349
  n223 : N223 R
  n249 : N249 R
def c328 : IFn := { np := 0, rs := [.t 0], body :=
 (.seq
  (.ops [⟨some 0, none, .mv (.k (.bool false))⟩])
  (.seq
   (.ops [⟨some 4, none, .call 349 [.k (.int .i64 10), .k (.int .i64 0), .k (.int .i64 0)]⟩,
     ⟨some 5, none, .build [.int .i64 0, .int .i64 0, .int .i64 0, .int .i64 0, .int .i64 0, .int .i64 0, .int .i64 0, .int .i64 0, .int .i64 0, .int .i64 0, .int .i64 0, .int .i64 0, .int .i64 0, .int .i64 0, .int .i64 0, .int .i64 0] [(0, 1, .k (.int .i64 (-1))), (1, 12, .t 4)]⟩,
     ⟨some 6, none, .call 349 [.k (.int .i64 1), .k (.int .i64 2), .k (.int .i64 3)]⟩,
     ⟨some 7, none, .build [.int .i64 0, .int .i64 0, .int .i64 0, .int .i64 0, .int .i64 0, .int .i64 0, .int .i64 0, .int .i64 0, .int .i64 0, .int .i64 0, .int .i64 0, .int .i64 0, .int .i64 0, .int .i64 0, .int .i64 0, .int .i64 0] [(1, 12, .t 6), (13, 1, .k (.int .i64 5)), (14, 1, .k (.int .i64 6))]⟩,
     ⟨some 8, none, .bslice 43 16 2 [.int .i64 0, .int .i64 0, .int .i64 0, .int .i64 0, .int .i64 0, .int .i64 0, .int .i64 0, .int .i64 0, .int .i64 0, .int .i64 0, .int .i64 0, .int .i64 0, .int .i64 0, .int .i64 0, .int .i64 0, .int .i64 0] [(0, .t 5), (1, .t 7)]⟩,
     ⟨some 9, none, .call 327 [.t 8]⟩,
     ⟨some 3, none, .mv (.t 9)⟩,
     ⟨some 10, none, .ext (.t 3) 0⟩,
     ⟨some 11, none, .ext (.t 3) 1⟩,
     ⟨some 1, none, .mv (.t 10)⟩,
     ⟨some 2, none, .mv (.t 11)⟩])
   (.keep [1, 2]
    (.seq
     (.draw [0, 1, 3, 7, 15, 31, 63, 127, 255, 511, 1023, 255, 2303, 8191, 16383, 32767] [[2], [12], [13], [1], [15], [16], [14, 17], [18], [1], [20], [21], [], [23], [22, 24], [19, 25], [26]] [⟨some 12, none, .mv (.t 2)⟩,
       ⟨some 13, none, .bin .eql (.t 12) (.k (.int .i64 0))⟩,
       ⟨some 14, none, .mv (.t 13)⟩,
       ⟨some 15, some (14, true), .mv (.t 1)⟩,
       ⟨some 16, some (14, true), .lenS (.t 15)⟩,
       ⟨some 17, some (14, true), .bin .eql (.t 16) (.k (.int .i64 1))⟩,
       ⟨some 18, none, .pick (.t 14) (.t 17) (.k (.bool false))⟩,
       ⟨some 19, none, .mv (.t 18)⟩,
       ⟨some 20, some (19, true), .mv (.t 1)⟩,
       ⟨some 21, some (19, true), .idxS 16 (.t 20) (.k (.int .i64 0))⟩,
       ⟨some 22, some (19, true), .load true 16 (.t 21)⟩,
       ⟨some 23, some (19, true), .call 349 [.k (.int .i64 11), .k (.int .i64 2), .k (.int .i64 3)]⟩,
       ⟨some 24, some (19, true), .build [.int .i64 0, .int .i64 0, .int .i64 0, .int .i64 0, .int .i64 0, .int .i64 0, .int .i64 0, .int .i64 0, .int .i64 0, .int .i64 0, .int .i64 0, .int .i64 0, .int .i64 0, .int .i64 0, .int .i64 0, .int .i64 0] [(0, 1, .k (.int .i64 5)), (1, 1, .k (.int .i64 6)), (4, 12, .t 23)]⟩,
       ⟨some 25, some (19, true), .eqa false [.i, .i, .i, .i, .i, .i, .i, .i, .i, .i, .i, .i, .i, .i, .i, .i] (.t 22) (.t 24)⟩,
       ⟨some 26, none, .pick (.t 19) (.t 25) (.k (.bool false))⟩,
       ⟨some 0, none, .mv (.t 26)⟩])
     (.keep [0]
      .ret))))) }
structure N328 (R : Env) : Prop where
  o328 : R.Fn 328 c328
  n327 : N327 R
  n349 : N349 R
def c325 : IFn := { np := 2, rs := [.t 4], body :=
 (.seq
  (.ops [⟨some 3, none, .box 35 (.t 1)⟩,
    ⟨some 4, none, .mv (.k (.bool false))⟩])
  (.seq
   (.ops [⟨some 15, none, .mv (.t 0)⟩,
     ⟨some 16, none, .call 326 [.t 15]⟩,
     ⟨some 0, none, .mv (.t 16)⟩])
   (.seq
    (.ops [⟨some 18, none, .mv (.t 0)⟩,
      ⟨some 19, none, .call 327 [.t 18]⟩,
      ⟨some 17, none, .mv (.t 19)⟩,
      ⟨some 20, none, .ext (.t 17) 0⟩,
      ⟨some 21, none, .ext (.t 17) 1⟩,
      ⟨some 5, none, .mv (.t 20)⟩,
      ⟨some 6, none, .mv (.t 21)⟩])
    (.keep [0, 3, 5, 6]
     (.seq
      (.seq
       (.ops [⟨some 22, none, .mv (.t 6)⟩,
         ⟨some 23, none, .bin .neq (.t 22) (.k (.int .i64 0))⟩])
       (.cond (.t 23)
        (.seq
         (.ops [⟨some 24, none, .mv (.t 5)⟩,
           ⟨some 25, none, .lenS (.t 24)⟩,
           ⟨some 26, none, .bin .eql (.t 25) (.k (.int .i64 0))⟩,
           ⟨some 27, none, .mv (.t 26)⟩,
           ⟨some 28, some (27, true), .call 328 []⟩,
           ⟨some 29, none, .pick (.t 27) (.t 28) (.k (.bool false))⟩,
           ⟨some 4, none, .mv (.t 29)⟩])
         (.keep [4]
          .ret))
        .skip))
      (.keep [0, 3, 5]
       (.seq
        (.ops [⟨some 30, none, .idxA 3 1 (.t 3) (.k (.int .i64 0))⟩,
          ⟨some 31, none, .load false 1 (.t 30)⟩,
          ⟨some 32, none, .conv .i64 (.t 31)⟩,
          ⟨some 33, none, .idxA 3 1 (.t 3) (.k (.int .i64 1))⟩,
          ⟨some 34, none, .load false 1 (.t 33)⟩,
          ⟨some 35, none, .conv .i64 (.t 34)⟩,
          ⟨some 36, none, .idxA 3 1 (.t 3) (.k (.int .i64 2))⟩,
          ⟨some 37, none, .load false 1 (.t 36)⟩,
          ⟨some 38, none, .conv .i64 (.t 37)⟩,
          ⟨some 39, none, .build [.int .i64 0, .int .i64 0, .int .i64 0] [(0, 1, .t 32), (1, 1, .t 35), (2, 1, .t 38)]⟩,
          ⟨some 40, none, .call 249 [.t 39]⟩,
          ⟨some 7, none, .alloc 31 [.int .i64 0, .int .i64 0, .int .i64 0]⟩,
          ⟨none, none, .store 3 (.t 7) (.t 40)⟩])
        (.keep [0, 5, 7]
         (.seq
          (.ops [⟨some 8, none, .mv (.k (.nils))⟩])
          (.seq
           (.seq
            (.ops [⟨some 41, none, .mv (.t 0)⟩,
              ⟨some 42, none, .lenS (.t 41)⟩,
              ⟨some 43, none, .mv (.k (.int .i64 0))⟩])
            (.keep [5, 7, 8, 41, 42, 43]
             (.block 0
              (.loop
               (.seq
                (.ops [⟨some 44, none, .bin .lss (.t 43) (.t 42)⟩])
                (.seq
                 (.cond (.t 44)
                  .skip
                  (.exit 0))
                 (.keep [5, 7, 8, 41, 42, 43]
                  (.seq
                   (.block 1
                    (.seq
                     (.ops [⟨some 45, none, .idxS 16 (.t 41) (.t 43)⟩,
                       ⟨some 46, none, .load true 16 (.t 45)⟩,
                       ⟨some 10, none, .alloc 43 [.int .i64 0, .int .i64 0, .int .i64 0, .int .i64 0, .int .i64 0, .int .i64 0, .int .i64 0, .int .i64 0, .int .i64 0, .int .i64 0, .int .i64 0, .int .i64 0, .int .i64 0, .int .i64 0, .int .i64 0, .int .i64 0]⟩,
                       ⟨none, none, .store 16 (.t 10) (.t 46)⟩])
                     (.seq
                      (.seq
                       (.ops [⟨some 47, none, .fldA 1 (.t 10)⟩,
                         ⟨some 48, none, .fldA 9 (.t 47)⟩,
                         ⟨some 49, none, .load true 3 (.t 48)⟩,
                         ⟨some 50, none, .call 256 [.t 49]⟩,
                         ⟨some 51, none, .call 248 [.k (.int .i64 65536)]⟩,
                         ⟨some 52, none, .bin .gtr (.t 50) (.t 51)⟩])
                       (.keep [5, 7, 8, 10, 41, 42, 43, 52]
                        (.cond (.t 52)
                         (.seq
                          (.ops [⟨some 53, none, .call 328 []⟩,
                            ⟨some 4, none, .mv (.t 53)⟩])
                          .ret)
                         .skip)))
                      (.keep [5, 7, 8, 10, 41, 42, 43]
                       (.seq
                        (.seq
                         (.ops [⟨some 54, none, .fldA 0 (.t 10)⟩,
                           ⟨some 55, none, .load false 1 (.t 54)⟩,
                           ⟨some 56, none, .bin .eql (.t 55) (.k (.int .i64 (-1)))⟩])
                         (.cond (.t 56)
                          (.ops [⟨some 57, none, .fldA 1 (.t 10)⟩,
                            ⟨some 58, none, .fldA 9 (.t 57)⟩,
                            ⟨some 59, none, .load true 3 (.t 58)⟩,
                            ⟨some 60, none, .load true 3 (.t 7)⟩,
                            ⟨some 61, none, .bslice 31 3 2 [.int .i64 0, .int .i64 0, .int .i64 0] [(0, .t 59), (1, .t 60)]⟩,
                            ⟨some 62, none, .call 246 [.t 61]⟩,
                            ⟨some 63, none, .fldA 1 (.t 10)⟩,
                            ⟨some 64, none, .fldA 9 (.t 63)⟩,
                            ⟨none, none, .store 3 (.t 64) (.t 62)⟩])
                          .skip))
                        (.keep [5, 7, 8, 10, 41, 42, 43]
                         (.ops [⟨some 65, none, .mv (.t 8)⟩,
                           ⟨some 66, none, .load true 16 (.t 10)⟩,
                           ⟨some 67, none, .bslice 43 16 1 [.int .i64 0, .int .i64 0, .int .i64 0, .int .i64 0, .int .i64 0, .int .i64 0, .int .i64 0, .int .i64 0, .int .i64 0, .int .i64 0, .int .i64 0, .int .i64 0, .int .i64 0, .int .i64 0, .int .i64 0, .int .i64 0] [(0, .t 66)]⟩,
                           ⟨some 68, none, .app 43 16 (.t 65) (.t 67)⟩,
                           ⟨some 8, none, .mv (.t 68)⟩])))))))
                   (.keep [5, 7, 8, 41, 42, 43]
                    (.ops [⟨some 69, none, .bin .add (.t 43) (.k (.int .i64 1))⟩,
                      ⟨some 43, none, .mv (.t 69)⟩]))))))))))
           (.keep [5, 7, 8]
            (.seq
             (.ops [⟨some 71, none, .mv (.t 8)⟩,
               ⟨some 72, none, .call 327 [.t 71]⟩,
               ⟨some 70, none, .mv (.t 72)⟩,
               ⟨some 73, none, .ext (.t 70) 0⟩,
               ⟨some 74, none, .ext (.t 70) 1⟩,
               ⟨some 11, none, .mv (.t 73)⟩,
               ⟨some 12, none, .mv (.t 74)⟩])
             (.keep [5, 7, 11, 12]
              (.seq
               (.seq
                (.ops [⟨some 75, none, .mv (.t 12)⟩,
                  ⟨some 76, none, .bin .neq (.t 75) (.k (.int .i64 0))⟩])
                (.cond (.t 76)
                 (.seq
                  (.ops [⟨some 77, none, .call 328 []⟩,
                    ⟨some 4, none, .mv (.t 77)⟩])
                  .ret)
                 .skip))
               (.keep [5, 7, 11]
                (.seq
                 (.seq
                  (.ops [⟨some 78, none, .mv (.t 5)⟩,
                    ⟨some 79, none, .lenS (.t 78)⟩,
                    ⟨some 80, none, .mv (.t 11)⟩,
                    ⟨some 81, none, .lenS (.t 80)⟩,
                    ⟨some 82, none, .bin .neq (.t 79) (.t 81)⟩])
                  (.keep [5, 7, 11, 82]
                   (.cond (.t 82)
                    (.seq
                     (.ops [⟨some 4, none, .mv (.k (.bool false))⟩])
                     .ret)
                    .skip)))
                 (.keep [5, 7, 11]
                  (.seq
                   (.seq
                    (.ops [⟨some 83, none, .mv (.t 5)⟩,
                      ⟨some 84, none, .lenS (.t 83)⟩,
                      ⟨some 85, none, .mv (.k (.int .i64 0))⟩])
                    (.keep [5, 7, 11, 84, 85]
                     (.block 2
                      (.loop
                       (.seq
                        (.ops [⟨some 86, none, .bin .lss (.t 85) (.t 84)⟩])
                        (.seq
                         (.cond (.t 86)
                          .skip
                          (.exit 2))
                         (.keep [5, 7, 11, 84, 85]
                          (.seq
                           (.block 3
                            (.seq
                             (.ops [⟨some 87, none, .mv (.t 85)⟩,
                               ⟨some 13, none, .mv (.t 87)⟩])
                             (.seq
                              (.ops [⟨some 88, none, .mv (.t 5)⟩,
                                ⟨some 89, none, .mv (.t 13)⟩,
                                ⟨some 90, none, .idxS 16 (.t 88) (.t 89)⟩,
                                ⟨some 91, none, .load true 16 (.t 90)⟩,
                                ⟨some 14, none, .alloc 44 [.int .i64 0, .int .i64 0, .int .i64 0, .int .i64 0, .int .i64 0, .int .i64 0, .int .i64 0, .int .i64 0, .int .i64 0, .int .i64 0, .int .i64 0, .int .i64 0, .int .i64 0, .int .i64 0, .int .i64 0, .int .i64 0]⟩,
                                ⟨none, none, .store 16 (.t 14) (.t 91)⟩])
                              (.keep [5, 7, 11, 13, 14, 84, 85]
                               (.seq
                                (.ops [⟨some 92, none, .fldA 4 (.t 14)⟩,
                                  ⟨some 93, none, .fldA 9 (.t 92)⟩,
                                  ⟨some 94, none, .load true 3 (.t 93)⟩,
                                  ⟨some 95, none, .load true 3 (.t 7)⟩,
                                  ⟨some 96, none, .bslice 31 3 2 [.int .i64 0, .int .i64 0, .int .i64 0] [(0, .t 94), (1, .t 95)]⟩,
                                  ⟨some 97, none, .call 246 [.t 96]⟩,
                                  ⟨some 98, none, .fldA 4 (.t 14)⟩,
                                  ⟨some 99, none, .fldA 9 (.t 98)⟩,
                                  ⟨none, none, .store 3 (.t 99) (.t 97)⟩])
                                (.keep [5, 7, 11, 13, 14, 84, 85]
                                 (.seq
                                  (.draw [0, 0, 3, 7, 0, 31] [[11], [13], [100, 101], [102], [14], [103, 104]] [⟨some 100, none, .mv (.t 11)⟩,
                                    ⟨some 101, none, .mv (.t 13)⟩,
                                    ⟨some 102, none, .idxS 16 (.t 100) (.t 101)⟩,
                                    ⟨some 103, none, .load true 16 (.t 102)⟩,
                                    ⟨some 104, none, .load true 16 (.t 14)⟩,
                                    ⟨some 105, none, .eqa true [.i, .i, .i, .i, .i, .i, .i, .i, .i, .i, .i, .i, .i, .i, .i, .i] (.t 103) (.t 104)⟩])
                                  (.keep [5, 7, 11, 84, 85, 105]
                                   (.cond (.t 105)
                                    (.seq
                                     (.ops [⟨some 4, none, .mv (.k (.bool false))⟩])
                                     .ret)
                                    .skip)))))))))
                           (.keep [5, 7, 11, 84, 85]
                            (.ops [⟨some 106, none, .bin .add (.t 85) (.k (.int .i64 1))⟩,
                              ⟨some 85, none, .mv (.t 106)⟩]))))))))))
                   (.keep []
                    (.seq
                     (.ops [⟨some 107, none, .call 328 []⟩,
                       ⟨some 4, none, .mv (.t 107)⟩])
                     .ret)))))))))))))))))))) }
structure N325 (R : Env) : Prop where
  o325 : R.Fn 325 c325
  n246 : N246 R
  n248 : N248 R
  n249 : N249 R
  n256 : N256 R
  n326 : N326 R
  n327 : N327 R
  n328 : N328 R
def c329 : IFn := { np := 2, rs := [.t 4], body :=
 (.seq
  (.ops [⟨some 4, none, .mv (.k (.bool false))⟩])
  (.seq
   (.ops [⟨some 14, none, .mv (.t 0)⟩,
     ⟨some 15, none, .call 326 [.t 14]⟩,
     ⟨some 0, none, .mv (.t 15)⟩])
   (.seq
    (.ops [⟨some 16, none, .mv (.t 0)⟩,
      ⟨some 17, none, .call 330 [.t 16]⟩,
      ⟨some 5, none, .mv (.t 17)⟩])
    (.seq
     (.ops [⟨some 19, none, .mv (.t 0)⟩,
       ⟨some 20, none, .mv (.t 1)⟩,
       ⟨some 21, none, .call 331 [.t 19, .t 20]⟩,
       ⟨some 18, none, .mv (.t 21)⟩,
       ⟨some 22, none, .ext (.t 18) 0⟩,
       ⟨some 23, none, .ext (.t 18) 1⟩,
       ⟨some 6, none, .mv (.t 22)⟩,
       ⟨some 7, none, .mv (.t 23)⟩])
     (.keep [0, 1, 5, 6, 7]
      (.seq
       (.ops [⟨some 25, none, .mv (.t 0)⟩,
         ⟨some 26, none, .mv (.t 1)⟩,
         ⟨some 27, none, .call 332 [.t 25, .t 26]⟩,
         ⟨some 24, none, .mv (.t 27)⟩,
         ⟨some 28, none, .ext (.t 24) 0⟩,
         ⟨some 29, none, .ext (.t 24) 1⟩,
         ⟨some 8, none, .alloc 33 [.int .i64 0, .int .i64 0, .int .i64 0, .int .i64 0, .int .i64 0, .int .i64 0, .int .i64 0, .int .i64 0, .int .i64 0, .int .i64 0, .int .i64 0, .int .i64 0]⟩,
         ⟨none, none, .store 12 (.t 8) (.t 28)⟩,
         ⟨some 9, none, .mv (.t 29)⟩])
       (.keep [0, 1, 5, 6, 7, 8, 9]
        (.seq
         (.ops [⟨some 31, none, .mv (.t 0)⟩,
           ⟨some 32, none, .mv (.t 1)⟩,
           ⟨some 33, none, .call 333 [.t 31, .t 32]⟩,
           ⟨some 30, none, .mv (.t 33)⟩,
           ⟨some 34, none, .ext (.t 30) 0⟩,
           ⟨some 35, none, .ext (.t 30) 1⟩,
           ⟨some 10, none, .mv (.t 34)⟩,
           ⟨some 11, none, .mv (.t 35)⟩])
         (.keep [0, 1, 5, 6, 7, 8, 9, 10, 11]
          (.seq
           (.seq
            (.ops [⟨some 36, none, .mv (.t 5)⟩,
              ⟨some 37, none, .mv (.t 0)⟩,
              ⟨some 38, none, .call 334 [.t 37]⟩,
              ⟨some 39, none, .bin .neq (.t 36) (.t 38)⟩])
            (.cond (.t 39)
             (.seq
              (.ops [⟨some 4, none, .mv (.k (.bool false))⟩])
              .ret)
             .skip))
           (.keep [0, 1, 5, 6, 7, 8, 9, 10, 11]
            (.seq
             (.seq
              (.ops [⟨some 40, none, .mv (.t 5)⟩,
                ⟨some 41, none, .bin .neq (.t 40) (.k (.int .i64 0))⟩])
              (.cond (.t 41)
               (.seq
                (.ops [⟨some 42, none, .mv (.t 7)⟩,
                  ⟨some 43, none, .mv (.t 5)⟩,
                  ⟨some 44, none, .bin .eql (.t 42) (.t 43)⟩,
                  ⟨some 45, none, .mv (.t 44)⟩,
                  ⟨some 46, some (45, true), .mv (.t 9)⟩,
                  ⟨some 47, some (45, true), .mv (.t 5)⟩,
                  ⟨some 48, some (45, true), .bin .eql (.t 46) (.t 47)⟩,
                  ⟨some 49, none, .pick (.t 45) (.t 48) (.k (.bool false))⟩,
                  ⟨some 50, none, .mv (.t 49)⟩,
                  ⟨some 51, some (50, true), .mv (.t 11)⟩,
                  ⟨some 52, some (50, true), .mv (.t 5)⟩,
                  ⟨some 53, some (50, true), .bin .eql (.t 51) (.t 52)⟩,
                  ⟨some 54, none, .pick (.t 50) (.t 53) (.k (.bool false))⟩,
                  ⟨some 55, none, .mv (.t 54)⟩,
                  ⟨some 56, some (55, true), .mv (.t 6)⟩,
                  ⟨some 57, some (55, true), .bin .eql (.t 56) (.k (.int .i64 0))⟩,
                  ⟨some 58, none, .pick (.t 55) (.t 57) (.k (.bool false))⟩,
                  ⟨some 59, none, .mv (.t 58)⟩,
                  ⟨some 60, some (59, true), .mv (.t 10)⟩,
                  ⟨some 61, some (59, true), .lenS (.t 60)⟩,
                  ⟨some 62, some (59, true), .bin .eql (.t 61) (.k (.int .i64 0))⟩,
                  ⟨some 63, none, .pick (.t 59) (.t 62) (.k (.bool false))⟩,
                  ⟨some 64, none, .mv (.t 63)⟩,
                  ⟨some 65, some (64, true), .call 328 []⟩,
                  ⟨some 66, none, .pick (.t 64) (.t 65) (.k (.bool false))⟩,
                  ⟨some 4, none, .mv (.t 66)⟩])
                (.keep [4]
                 .ret))
               .skip))
             (.keep [0, 1, 6, 7, 8, 9, 10, 11]
              (.seq
               (.seq
                (.ops [⟨some 67, none, .mv (.t 1)⟩,
                  ⟨some 68, none, .bin .lss (.t 67) (.k (.int .i64 0))⟩,
                  ⟨some 69, none, .mv (.t 68)⟩,
                  ⟨some 70, some (69, false), .mv (.t 1)⟩,
                  ⟨some 71, some (69, false), .mv (.t 0)⟩,
                  ⟨some 72, some (69, false), .lenS (.t 71)⟩,
                  ⟨some 73, some (69, false), .bin .geq (.t 70) (.t 72)⟩,
                  ⟨some 74, none, .pick (.t 69) (.k (.bool true)) (.t 73)⟩])
                (.keep [0, 1, 6, 7, 8, 9, 10, 11, 74]
                 (.cond (.t 74)
                  (.seq
                   (.ops [⟨some 75, none, .mv (.t 7)⟩,
                     ⟨some 76, none, .bin .eql (.t 75) (.k (.int .i64 2))⟩,
                     ⟨some 77, none, .mv (.t 76)⟩,
                     ⟨some 78, some (77, true), .mv (.t 9)⟩,
                     ⟨some 79, some (77, true), .bin .eql (.t 78) (.k (.int .i64 2))⟩,
                     ⟨some 80, none, .pick (.t 77) (.t 79) (.k (.bool false))⟩,
                     ⟨some 81, none, .mv (.t 80)⟩,
                     ⟨some 82, some (81, true), .mv (.t 11)⟩,
                     ⟨some 83, some (81, true), .bin .eql (.t 82) (.k (.int .i64 2))⟩,
                     ⟨some 84, none, .pick (.t 81) (.t 83) (.k (.bool false))⟩,
                     ⟨some 85, none, .mv (.t 84)⟩,
                     ⟨some 86, some (85, true), .load true 12 (.t 8)⟩,
                     ⟨some 87, some (85, true), .build [.int .i64 0, .int .i64 0, .int .i64 0, .int .i64 0, .int .i64 0, .int .i64 0, .int .i64 0, .int .i64 0, .int .i64 0, .int .i64 0, .int .i64 0, .int .i64 0] []⟩,
                     ⟨some 88, some (85, true), .eqa false [.i, .i, .i, .i, .i, .i, .i, .i, .i, .i, .i, .i] (.t 86) (.t 87)⟩,
                     ⟨some 89, none, .pick (.t 85) (.t 88) (.k (.bool false))⟩,
                     ⟨some 90, none, .mv (.t 89)⟩,
                     ⟨some 91, some (90, true), .call 328 []⟩,
                     ⟨some 92, none, .pick (.t 90) (.t 91) (.k (.bool false))⟩,
                     ⟨some 4, none, .mv (.t 92)⟩])
                   (.keep [4]
                    .ret))
                  .skip)))
               (.keep [0, 1, 6, 7, 8, 9, 10, 11]
                (.seq
                 (.ops [⟨some 12, none, .mv (.k (.int .i64 0))⟩])
                 (.seq
                  (.seq
                   (.ops [⟨some 93, none, .mv (.t 0)⟩,
                     ⟨some 94, none, .lenS (.t 93)⟩,
                     ⟨some 95, none, .mv (.k (.int .i64 0))⟩])
                   (.keep [0, 1, 6, 7, 8, 9, 10, 11, 12, 94, 95]
                    (.block 0
                     (.loop
                      (.seq
                       (.ops [⟨some 96, none, .bin .lss (.t 95) (.t 94)⟩])
                       (.seq
                        (.cond (.t 96)
                         .skip
                         (.exit 0))
                        (.keep [0, 1, 6, 7, 8, 9, 10, 11, 12, 94, 95]
                         (.seq
                          (.block 1
                           (.seq
                            (.ops [⟨some 97, none, .mv (.t 95)⟩,
                              ⟨some 13, none, .mv (.t 97)⟩])
                            (.seq
                             (.ops [⟨some 98, none, .mv (.t 0)⟩,
                               ⟨some 99, none, .mv (.t 13)⟩,
                               ⟨some 100, none, .mv (.t 1)⟩,
                               ⟨some 101, none, .call 335 [.t 98, .t 99, .t 100]⟩])
                             (.cond (.t 101)
                              (.seq
                               (.seq
                                (.ops [⟨some 102, none, .mv (.t 12)⟩,
                                  ⟨some 103, none, .mv (.t 10)⟩,
                                  ⟨some 104, none, .lenS (.t 103)⟩,
                                  ⟨some 105, none, .bin .geq (.t 102) (.t 104)⟩,
                                  ⟨some 106, none, .mv (.t 105)⟩,
                                  ⟨some 107, some (106, false), .mv (.t 10)⟩,
                                  ⟨some 108, some (106, false), .mv (.t 12)⟩,
                                  ⟨some 109, some (106, false), .idxS 1 (.t 107) (.t 108)⟩,
                                  ⟨some 110, some (106, false), .load false 1 (.t 109)⟩,
                                  ⟨some 111, some (106, false), .mv (.t 13)⟩,
                                  ⟨some 112, some (106, false), .bin .neq (.t 110) (.t 111)⟩,
                                  ⟨some 113, none, .pick (.t 106) (.k (.bool true)) (.t 112)⟩])
                                (.keep [0, 1, 6, 7, 8, 9, 10, 11, 12, 94, 95, 113]
                                 (.cond (.t 113)
                                  (.seq
                                   (.ops [⟨some 4, none, .mv (.k (.bool false))⟩])
                                   .ret)
                                  .skip)))
                               (.keep [0, 1, 6, 7, 8, 9, 10, 11, 12, 94, 95]
                                (.ops [⟨some 114, none, .mv (.t 12)⟩,
                                  ⟨some 115, none, .bin .add (.t 114) (.k (.int .i64 1))⟩,
                                  ⟨some 12, none, .mv (.t 115)⟩])))
                              .skip))))
                          (.keep [0, 1, 6, 7, 8, 9, 10, 11, 12, 94, 95]
                           (.ops [⟨some 116, none, .bin .add (.t 95) (.k (.int .i64 1))⟩,
                             ⟨some 95, none, .mv (.t 116)⟩]))))))))))
                  (.keep [0, 1, 6, 7, 8, 9, 10, 11, 12]
                   (.seq
                    (.draw [0, 1, 3, 7, 15, 31, 63, 127, 255, 511, 1023, 2047, 2047, 6143, 16383, 32767, 65535, 131071, 131071, 131071, 917503, 2097151, 4194303, 8388607, 16777215, 16777215, 16777215, 117440511, 268435455, 536870911, 1073741823, 2147483647, 4294967295, 8589934591] [[7], [117], [118], [9], [120], [119, 121], [122], [11], [124], [123, 125], [126], [12], [10], [129], [128, 130], [127, 131], [132], [6], [0], [1], [135, 136], [134, 137], [133, 138], [139], [8], [0], [1], [142, 143], [141, 144], [140, 145], [146], [], [147, 148], [149]] [⟨some 117, none, .mv (.t 7)⟩,
                      ⟨some 118, none, .bin .eql (.t 117) (.k (.int .i64 0))⟩,
                      ⟨some 119, none, .mv (.t 118)⟩,
                      ⟨some 120, some (119, true), .mv (.t 9)⟩,
                      ⟨some 121, some (119, true), .bin .eql (.t 120) (.k (.int .i64 0))⟩,
                      ⟨some 122, none, .pick (.t 119) (.t 121) (.k (.bool false))⟩,
                      ⟨some 123, none, .mv (.t 122)⟩,
                      ⟨some 124, some (123, true), .mv (.t 11)⟩,
                      ⟨some 125, some (123, true), .bin .eql (.t 124) (.k (.int .i64 0))⟩,
                      ⟨some 126, none, .pick (.t 123) (.t 125) (.k (.bool false))⟩,
                      ⟨some 127, none, .mv (.t 126)⟩,
                      ⟨some 128, some (127, true), .mv (.t 12)⟩,
                      ⟨some 129, some (127, true), .mv (.t 10)⟩,
                      ⟨some 130, some (127, true), .lenS (.t 129)⟩,
                      ⟨some 131, some (127, true), .bin .eql (.t 128) (.t 130)⟩,
                      ⟨some 132, none, .pick (.t 127) (.t 131) (.k (.bool false))⟩,
                      ⟨some 133, none, .mv (.t 132)⟩,
                      ⟨some 134, some (133, true), .mv (.t 6)⟩,
                      ⟨some 135, some (133, true), .mv (.t 0)⟩,
                      ⟨some 136, some (133, true), .mv (.t 1)⟩,
                      ⟨some 137, some (133, true), .call 336 [.t 135, .t 136]⟩,
                      ⟨some 138, some (133, true), .bin .eql (.t 134) (.t 137)⟩,
                      ⟨some 139, none, .pick (.t 133) (.t 138) (.k (.bool false))⟩,
                      ⟨some 140, none, .mv (.t 139)⟩,
                      ⟨some 141, some (140, true), .load true 12 (.t 8)⟩,
                      ⟨some 142, some (140, true), .mv (.t 0)⟩,
                      ⟨some 143, some (140, true), .mv (.t 1)⟩,
                      ⟨some 144, some (140, true), .call 337 [.t 142, .t 143]⟩,
                      ⟨some 145, some (140, true), .eqa false [.i, .i, .i, .i, .i, .i, .i, .i, .i, .i, .i, .i] (.t 141) (.t 144)⟩,
                      ⟨some 146, none, .pick (.t 140) (.t 145) (.k (.bool false))⟩,
                      ⟨some 147, none, .mv (.t 146)⟩,
                      ⟨some 148, some (147, true), .call 328 []⟩,
                      ⟨some 149, none, .pick (.t 147) (.t 148) (.k (.bool false))⟩,
                      ⟨some 4, none, .mv (.t 149)⟩])
                    (.keep [4]
                     .ret)))))))))))))))))))) }
structure N329 (R : Env) : Prop where
  o329 : R.Fn 329 c329
  n326 : N326 R
  n328 : N328 R
  n330 : N330 R
  n331 : N331 R
  n332 : N332 R
  n333 : N333 R
  n334 : N334 R
  n335 : N335 R
  n336 : N336 R
  n337 : N337 R
def c338 : IFn := { np := 2, rs := [.t 4], body :=
 (.seq
  (.ops [⟨some 4, none, .mv (.k (.bool false))⟩])
  (.seq
   (.ops [⟨some 19, none, .mv (.t 0)⟩,
     ⟨some 20, none, .call 326 [.t 19]⟩,
     ⟨some 0, none, .mv (.t 20)⟩])
   (.seq
    (.seq
     (.ops [⟨some 21, none, .mv (.t 0)⟩,
       ⟨some 22, none, .lenS (.t 21)⟩,
       ⟨some 23, none, .bin .eql (.t 22) (.k (.int .i64 0))⟩])
     (.cond (.t 23)
      (.seq
       (.ops [⟨some 24, none, .call 328 []⟩,
         ⟨some 4, none, .mv (.t 24)⟩])
       .ret)
      .skip))
    (.keep [0, 1]
     (.seq
      (.ops [⟨some 25, none, .mv (.t 1)⟩,
        ⟨some 26, none, .mv (.t 0)⟩,
        ⟨some 27, none, .lenS (.t 26)⟩,
        ⟨some 28, none, .bin .rem (.t 25) (.t 27)⟩,
        ⟨some 29, none, .mv (.t 0)⟩,
        ⟨some 30, none, .lenS (.t 29)⟩,
        ⟨some 31, none, .bin .add (.t 28) (.t 30)⟩,
        ⟨some 32, none, .mv (.t 0)⟩,
        ⟨some 33, none, .lenS (.t 32)⟩,
        ⟨some 34, none, .bin .rem (.t 31) (.t 33)⟩,
        ⟨some 1, none, .mv (.t 34)⟩])
      (.keep [0, 1]
       (.seq
        (.ops [⟨some 36, none, .mv (.t 0)⟩,
          ⟨some 37, none, .mv (.t 1)⟩,
          ⟨some 38, none, .call 333 [.t 36, .t 37]⟩,
          ⟨some 35, none, .mv (.t 38)⟩,
          ⟨some 39, none, .ext (.t 35) 0⟩,
          ⟨some 40, none, .ext (.t 35) 1⟩,
          ⟨some 5, none, .mv (.t 39)⟩,
          ⟨some 6, none, .mv (.t 40)⟩])
        (.keep [0, 1, 5, 6]
         (.seq
          (.seq
           (.ops [⟨some 41, none, .mv (.t 6)⟩,
             ⟨some 42, none, .bin .neq (.t 41) (.k (.int .i64 0))⟩])
           (.cond (.t 42)
            (.seq
             (.ops [⟨some 43, none, .mv (.t 5)⟩,
               ⟨some 44, none, .lenS (.t 43)⟩,
               ⟨some 45, none, .bin .eql (.t 44) (.k (.int .i64 0))⟩,
               ⟨some 46, none, .mv (.t 45)⟩,
               ⟨some 47, some (46, true), .call 328 []⟩,
               ⟨some 48, none, .pick (.t 46) (.t 47) (.k (.bool false))⟩,
               ⟨some 4, none, .mv (.t 48)⟩])
             (.keep [4]
              .ret))
            .skip))
          (.keep [0, 1, 5]
           (.seq
            (.ops [⟨some 50, none, .mv (.t 0)⟩,
              ⟨some 51, none, .mv (.t 1)⟩,
              ⟨some 52, none, .call 331 [.t 50, .t 51]⟩,
              ⟨some 49, none, .mv (.t 52)⟩,
              ⟨some 53, none, .ext (.t 49) 0⟩,
              ⟨some 54, none, .ext (.t 49) 1⟩,
              ⟨some 7, none, .mv (.t 53)⟩,
              ⟨some 8, none, .mv (.t 54)⟩])
            (.keep [0, 1, 5, 7]
             (.seq
              (.ops [⟨some 56, none, .mv (.t 0)⟩,
                ⟨some 57, none, .mv (.t 1)⟩,
                ⟨some 58, none, .call 332 [.t 56, .t 57]⟩,
                ⟨some 55, none, .mv (.t 58)⟩,
                ⟨some 59, none, .ext (.t 55) 0⟩,
                ⟨some 60, none, .ext (.t 55) 1⟩,
                ⟨some 9, none, .alloc 33 [.int .i64 0, .int .i64 0, .int .i64 0, .int .i64 0, .int .i64 0, .int .i64 0, .int .i64 0, .int .i64 0, .int .i64 0, .int .i64 0, .int .i64 0, .int .i64 0]⟩,
                ⟨none, none, .store 12 (.t 9) (.t 59)⟩,
                ⟨some 10, none, .mv (.t 60)⟩])
              (.keep [0, 1, 5, 7, 9]
               (.seq
                (.seq
                 (.ops [⟨some 61, none, .mv (.t 5)⟩,
                   ⟨some 62, none, .lenS (.t 61)⟩,
                   ⟨some 63, none, .mv (.k (.int .i64 0))⟩])
                 (.keep [0, 1, 5, 7, 9, 61, 62, 63]
                  (.block 0
                   (.loop
                    (.seq
                     (.ops [⟨some 64, none, .bin .lss (.t 63) (.t 62)⟩])
                     (.seq
                      (.cond (.t 64)
                       .skip
                       (.exit 0))
                      (.keep [0, 1, 5, 7, 9, 61, 62, 63]
                       (.seq
                        (.block 1
                         (.seq
                          (.ops [⟨some 65, none, .idxS 1 (.t 61) (.t 63)⟩,
                            ⟨some 66, none, .load false 1 (.t 65)⟩,
                            ⟨some 12, none, .mv (.t 66)⟩])
                          (.seq
                           (.ops [⟨some 68, none, .mv (.t 0)⟩,
                             ⟨some 69, none, .mv (.t 12)⟩,
                             ⟨some 70, none, .call 331 [.t 68, .t 69]⟩,
                             ⟨some 67, none, .mv (.t 70)⟩,
                             ⟨some 71, none, .ext (.t 67) 0⟩,
                             ⟨some 72, none, .ext (.t 67) 1⟩,
                             ⟨some 13, none, .mv (.t 71)⟩,
                             ⟨some 14, none, .mv (.t 72)⟩])
                           (.keep [0, 1, 5, 7, 9, 12, 13, 14, 61, 62, 63]
                            (.seq
                             (.ops [⟨some 74, none, .mv (.t 0)⟩,
                               ⟨some 75, none, .mv (.t 12)⟩,
                               ⟨some 76, none, .call 333 [.t 74, .t 75]⟩,
                               ⟨some 73, none, .mv (.t 76)⟩,
                               ⟨some 77, none, .ext (.t 73) 0⟩,
                               ⟨some 78, none, .ext (.t 73) 1⟩,
                               ⟨some 15, none, .mv (.t 77)⟩,
                               ⟨some 16, none, .mv (.t 78)⟩])
                             (.keep [0, 1, 5, 7, 9, 12, 13, 14, 15, 16, 61, 62, 63]
                              (.seq
                               (.seq
                                (.ops [⟨some 79, none, .mv (.t 14)⟩,
                                  ⟨some 80, none, .bin .neq (.t 79) (.k (.int .i64 0))⟩,
                                  ⟨some 81, none, .mv (.t 80)⟩,
                                  ⟨some 82, some (81, false), .mv (.t 16)⟩,
                                  ⟨some 83, some (81, false), .bin .neq (.t 82) (.k (.int .i64 0))⟩,
                                  ⟨some 84, none, .pick (.t 81) (.k (.bool true)) (.t 83)⟩,
                                  ⟨some 85, none, .mv (.t 84)⟩,
                                  ⟨some 86, some (85, false), .mv (.t 13)⟩,
                                  ⟨some 87, some (85, false), .mv (.t 7)⟩,
                                  ⟨some 88, some (85, false), .bin .leq (.t 86) (.t 87)⟩,
                                  ⟨some 89, none, .pick (.t 85) (.k (.bool true)) (.t 88)⟩,
                                  ⟨some 90, none, .mv (.t 89)⟩,
                                  ⟨some 91, some (90, false), .mv (.t 15)⟩,
                                  ⟨some 92, some (90, false), .lenS (.t 91)⟩,
                                  ⟨some 93, some (90, false), .mv (.t 5)⟩,
                                  ⟨some 94, some (90, false), .lenS (.t 93)⟩,
                                  ⟨some 95, some (90, false), .bin .geq (.t 92) (.t 94)⟩,
                                  ⟨some 96, none, .pick (.t 90) (.k (.bool true)) (.t 95)⟩])
                                (.keep [0, 1, 5, 7, 9, 12, 13, 61, 62, 63, 96]
                                 (.cond (.t 96)
                                  (.seq
                                   (.ops [⟨some 4, none, .mv (.k (.bool false))⟩])
                                   .ret)
                                  .skip)))
                               (.keep [0, 1, 5, 7, 9, 12, 13, 61, 62, 63]
                                (.seq
                                 (.ops [⟨some 97, none, .mv (.t 0)⟩,
                                   ⟨some 98, none, .mv (.t 12)⟩,
                                   ⟨some 99, none, .idxS 16 (.t 97) (.t 98)⟩,
                                   ⟨some 100, none, .fldA 0 (.t 99)⟩,
                                   ⟨some 101, none, .load false 1 (.t 100)⟩,
                                   ⟨some 102, none, .mv (.t 1)⟩,
                                   ⟨some 103, none, .bin .eql (.t 101) (.t 102)⟩])
                                 (.keep [0, 1, 5, 7, 9, 12, 13, 61, 62, 63, 103]
                                  (.cond (.t 103)
                                   (.seq
                                    (.ops [⟨some 105, none, .mv (.t 0)⟩,
                                      ⟨some 106, none, .mv (.t 12)⟩,
                                      ⟨some 107, none, .call 332 [.t 105, .t 106]⟩,
                                      ⟨some 104, none, .mv (.t 107)⟩,
                                      ⟨some 108, none, .ext (.t 104) 0⟩,
                                      ⟨some 109, none, .ext (.t 104) 1⟩,
                                      ⟨some 17, none, .alloc 33 [.int .i64 0, .int .i64 0, .int .i64 0, .int .i64 0, .int .i64 0, .int .i64 0, .int .i64 0, .int .i64 0, .int .i64 0, .int .i64 0, .int .i64 0, .int .i64 0]⟩,
                                      ⟨none, none, .store 12 (.t 17) (.t 108)⟩,
                                      ⟨some 18, none, .mv (.t 109)⟩])
                                    (.keep [0, 1, 5, 7, 9, 12, 13, 17, 61, 62, 63]
                                     (.seq
                                      (.draw [0, 0, 2, 7, 15, 31, 31, 127, 255, 511, 31, 2047, 4095, 8191, 8191, 32767, 65535, 131071] [[13], [7], [111], [110, 112], [113], [0], [12], [115, 116], [117], [118], [], [119, 120], [121], [17], [9], [123, 124], [122, 125], [114, 126]] [⟨some 110, none, .mv (.t 13)⟩,
                                        ⟨some 111, none, .mv (.t 7)⟩,
                                        ⟨some 112, none, .bin .add (.t 111) (.k (.int .i64 1))⟩,
                                        ⟨some 113, none, .bin .neq (.t 110) (.t 112)⟩,
                                        ⟨some 114, none, .mv (.t 113)⟩,
                                        ⟨some 115, some (114, false), .mv (.t 0)⟩,
                                        ⟨some 116, some (114, false), .mv (.t 12)⟩,
                                        ⟨some 117, some (114, false), .idxS 16 (.t 115) (.t 116)⟩,
                                        ⟨some 118, some (114, false), .fldA 1 (.t 117)⟩,
                                        ⟨some 119, some (114, false), .load true 12 (.t 118)⟩,
                                        ⟨some 120, some (114, false), .call 221 []⟩,
                                        ⟨some 121, some (114, false), .eqa false [.i, .i, .i, .i, .i, .i, .i, .i, .i, .i, .i, .i] (.t 119) (.t 120)⟩,
                                        ⟨some 122, some (114, false), .mv (.t 121)⟩,
                                        ⟨some 123, some (122, true), .load true 12 (.t 17)⟩,
                                        ⟨some 124, some (122, true), .load true 12 (.t 9)⟩,
                                        ⟨some 125, some (122, true), .eqa true [.i, .i, .i, .i, .i, .i, .i, .i, .i, .i, .i, .i] (.t 123) (.t 124)⟩,
                                        ⟨some 126, some (114, false), .pick (.t 122) (.t 125) (.k (.bool false))⟩,
                                        ⟨some 127, none, .pick (.t 114) (.k (.bool true)) (.t 126)⟩])
                                      (.keep [0, 1, 5, 7, 9, 61, 62, 63, 127]
                                       (.cond (.t 127)
                                        (.seq
                                         (.ops [⟨some 4, none, .mv (.k (.bool false))⟩])
                                         .ret)
                                        .skip)))))
                                   .skip)))))))))))
                        (.keep [0, 1, 5, 7, 9, 61, 62, 63]
                         (.ops [⟨some 128, none, .bin .add (.t 63) (.k (.int .i64 1))⟩,
                           ⟨some 63, none, .mv (.t 128)⟩]))))))))))
                (.keep []
                 (.seq
                  (.ops [⟨some 129, none, .call 328 []⟩,
                    ⟨some 4, none, .mv (.t 129)⟩])
                  .ret))))))))))))))))) }
structure N338 (R : Env) : Prop where
  o338 : R.Fn 338 c338
  n221 : N221 R
  n326 : N326 R
  n328 : N328 R
  n331 : N331 R
  n332 : N332 R
  n333 : N333 R
end Go.UM

namespace Go.UM
open Go.AM
def u8 (n : Int) : UInt8 := UInt8.ofNat (n % 256).toNat
theorem wr_u8 (n : Int) : wr .u8 n = ((u8 n).toNat : Int) := by
  have h1 : 0 ≤ n % 256 := Int.emod_nonneg _ (by decide)
  have h2 : n % 256 < 256 := Int.emod_lt_of_pos _ (by decide)
  simp only [wr, IntKind.wrap, IntKind.bits, IntKind.signed, u8]
  simp
  omega
def slc8 (l : List UInt8) : List (List AV) := l.map fun c => [.int .u8 c.toNat]
def slcK (k : IntKind) (l : List Int) : List (List AV) := l.map fun x => [.int k x]
@[simp] theorem slc8_nil : slc8 [] = [] := rfl
@[simp] theorem slc8_length (l : List UInt8) : (slc8 l).length = l.length := by simp [slc8]
@[simp] theorem slc8_append (a b : List UInt8) : slc8 (a ++ b) = slc8 a ++ slc8 b := by simp [slc8]
@[simp] theorem slc8_one (n : Int) : [[AV.int .u8 (wr .u8 n)]] = slc8 [u8 n] := by simp [slc8, wr_u8]
@[simp] theorem slcK_nil (k : IntKind) : slcK k [] = [] := rfl
@[simp] theorem slcK_length (k : IntKind) (l : List Int) : (slcK k l).length = l.length := by simp [slcK]
@[simp] theorem slcK_append (k : IntKind) (a b : List Int) : slcK k (a ++ b) = slcK k a ++ slcK k b := by simp [slcK]
@[simp] theorem slc8_NmL (l : List UInt8) : NmL (slc8 l) := by simp [slc8]
@[simp] theorem slcK_NmL (k : IntKind) (l : List Int) : NmL (slcK k l) := by simp [slcK]
@[simp] theorem slc8_FlL (l : List UInt8) : FlL (slc8 l) := by simp [slc8]
@[simp] theorem slcK_FlL (k : IntKind) (l : List Int) : FlL (slcK k l) := by simp [slcK]
instance {l : List UInt8} : LenOf (slc8 l) l.length := ⟨slc8_length l⟩
instance {k : IntKind} {l : List Int} : LenOf (slcK k l) l.length := ⟨slcK_length k l⟩
@[simp] theorem mem_slc8 {e : List AV} {l : List UInt8} : e ∈ slc8 l ↔ ∃ c, c ∈ l ∧ [AV.int .u8 c.toNat] = e := by simp [slc8]
@[simp] theorem mem_slcK {k : IntKind} {e : List AV} {l : List Int} : e ∈ slcK k l ↔ ∃ c, c ∈ l ∧ [AV.int k c] = e := by simp [slcK]
theorem take_succ_get {α : Type} {l : List α} {k : Nat} {x : α} (h : l[k]? = some x) : l.take (k + 1) = l.take k ++ [x] := by
  rw [List.take_add_one, h]; rfl
theorem aS8 {s : List UInt8} {K : List UInt8 → Prop} (k : K s) : AStr (slc8 s) K := ⟨⟨s, rfl, k⟩⟩
theorem take_cap {α : Type} (l : List α) (m : Int) : l.take (min (l.length : Int) m).toNat = l.take m.toNat := by
  by_cases h : (l.length : Int) ≤ m
  · rw [show (min (l.length : Int) m).toNat = l.length by omega, List.take_of_length_le (Nat.le_refl _), List.take_of_length_le (by omega)]
  · rw [show (min (l.length : Int) m).toNat = m.toNat by omega]
end Go.UM

namespace Go.UM
open Go.AM
theorem ofInt_toNat {n : Nat} {x : Int} (h0 : 0 ≤ x) (h1 : x < 2 ^ n) : (BitVec.ofInt n x).toNat = x.toNat := by
  rw [BitVec.toNat_ofInt]
  congr 1
  apply Int.emod_eq_of_lt h0
  exact_mod_cast h1
theorem wr_nat_u64 {x : Nat} (h : x < 18446744073709551616) : wr .u64 (x : Int) = x := wr_in (k := .u64) ⟨by omega, by omega⟩
theorem or_u64 {x y : Int} (hx : 0 ≤ x ∧ x ≤ 18446744073709551615) (hy : 0 ≤ y ∧ y ≤ 18446744073709551615) : bit2 .or .u64 x y = ((x.toNat ||| y.toNat : Nat) : Int) := by
  have e : bit2 .or .u64 x y = wr .u64 ((BitVec.ofInt 64 x ||| BitVec.ofInt 64 y).toNat : Int) := rfl
  rw [e, BitVec.toNat_or, ofInt_toNat hx.1 (by omega), ofInt_toNat hy.1 (by omega)]
  apply wr_nat_u64
  exact Nat.or_lt_two_pow (n := 64) (by omega) (by omega)
theorem and_u64 {x y : Int} (hx : 0 ≤ x ∧ x ≤ 18446744073709551615) (hy : 0 ≤ y ∧ y ≤ 18446744073709551615) : bit2 .and .u64 x y = ((x.toNat &&& y.toNat : Nat) : Int) := by
  have e : bit2 .and .u64 x y = wr .u64 ((BitVec.ofInt 64 x &&& BitVec.ofInt 64 y).toNat : Int) := rfl
  rw [e, BitVec.toNat_and, ofInt_toNat hx.1 (by omega), ofInt_toNat hy.1 (by omega)]
  apply wr_nat_u64
  exact Nat.and_lt_two_pow (n := 64) _ (by omega)
def le : List UInt8 → Nat
  | [] => 0
  | c :: r => c.toNat + 256 * le r
end Go.UM

namespace Go.UM
open Go.AM
structure T3 where
  (a b c : Int)
def z3 : T3 := ⟨0, 0, 0⟩
def t3 (x : T3) : List AV := [.int .i64 x.a, .int .i64 x.b, .int .i64 x.c]
def slc3 (l : List T3) : List (List AV) := l.map t3
@[simp] theorem slc3_nil : slc3 [] = [] := rfl
@[simp] theorem slc3_length (l : List T3) : (slc3 l).length = l.length := by simp [slc3]
@[simp] theorem slc3_append (a b : List T3) : slc3 (a ++ b) = slc3 a ++ slc3 b := by simp [slc3]
@[simp] theorem slc3_NmL (l : List T3) : NmL (slc3 l) := by simp [slc3, t3]
@[simp] theorem slc3_FlL (l : List T3) : FlL (slc3 l) := by simp [slc3, t3]
instance {l : List T3} : LenOf (slc3 l) l.length := ⟨slc3_length l⟩
end Go.UM

namespace Go.UM
open Go.AM
set_option maxRecDepth 4000
abbrev I64 (n : Int) : Prop := inI .i64 n
abbrev U64 (n : Int) : Prop := inI .u64 n
theorem i64_iff {n : Int} : I64 n ↔ -9223372036854775808 ≤ n ∧ n ≤ 9223372036854775807 := Iff.rfl
theorem u64_iff {n : Int} : U64 n ↔ 0 ≤ n ∧ n ≤ 18446744073709551615 := Iff.rfl
theorem wr_u64 (n : Int) : wr .u64 n = n % 18446744073709551616 := by
  simp only [wr, IntKind.wrap, IntKind.bits, IntKind.signed]; simp
theorem wr_i64 (n : Int) : wr .i64 n = (n + 9223372036854775808) % 18446744073709551616 - 9223372036854775808 := by
  simp only [wr, IntKind.wrap, IntKind.bits, IntKind.signed]; simp; omega
def sat (v : Int) : Int := if 9223372036854775807 < v then 9223372036854775807 else if v < -9223372036854775808 then -9223372036854775808 else v
theorem sat_in (v : Int) : I64 (sat v) := by
  rw [i64_iff]; unfold sat; split
  · omega
  · split <;> omega
theorem sat_id {v : Int} (h : I64 v) : sat v = v := by
  rw [i64_iff] at h; unfold sat; rw [if_neg (by omega), if_neg (by omega)]
def tadd (a b : Int) : Int := sat (a + b)
def tmul (a b : Int) : Int := sat (a * b / 4294967296)
def absI (x : Int) : Int := if x < 0 then -x else x
theorem absI_in {x : Int} (h : I64 x) : 0 ≤ absI x ∧ absI x ≤ 9223372036854775808 := by
  rw [i64_iff] at h; unfold absI; split <;> omega
theorem mul_abs (a b : Int) : a * b = if (decide (a < 0) != decide (b < 0)) = true then -(absI a * absI b) else absI a * absI b := by
  unfold absI
  by_cases ha : a < 0 <;> by_cases hb : b < 0 <;> simp [ha, hb, Int.neg_mul, Int.mul_neg]
theorem abs_mul_le {x y B : Int} (hx : 0 ≤ x ∧ x ≤ B) (hy : 0 ≤ y ∧ y ≤ B) : 0 ≤ x * y ∧ x * y ≤ B * B :=
  ⟨Int.mul_nonneg hx.1 hy.1, Int.mul_le_mul hx.2 hy.2 hy.1 (by omega)⟩
theorem prod_in {a b : Int} (ha : I64 a) (hb : I64 b) : -85070591730234615865843651857942052864 ≤ a * b ∧ a * b ≤ 85070591730234615865843651857942052864 := by
  have h := abs_mul_le (absI_in ha) (absI_in hb)
  rw [mul_abs]
  split <;> omega
def whi (v : Int) : Int := v / 18446744073709551616
def wlo (v : Int) : Int := v % 18446744073709551616
abbrev W126 (v : Int) : Prop := -85070591730234615865843651857942052864 ≤ v ∧ v ≤ 85070591730234615865843651857942052864
theorem whi_in {v : Int} (h : W126 v) : -4611686018427387904 ≤ whi v ∧ whi v ≤ 4611686018427387904 := by unfold whi; omega
theorem wlo_in (v : Int) : 0 ≤ wlo v ∧ wlo v ≤ 18446744073709551615 := by unfold wlo; omega
theorem mul64_e {x y : Int} (hx : U64 x) (hy : U64 y) :
    (0 ≤ x % 4294967296 * (y % 4294967296) ∧ x % 4294967296 * (y % 4294967296) ≤ 18446744065119617025) ∧
    (0 ≤ x / 4294967296 * (y % 4294967296) ∧ x / 4294967296 * (y % 4294967296) ≤ 18446744065119617025) ∧
    (0 ≤ x % 4294967296 * (y / 4294967296) ∧ x % 4294967296 * (y / 4294967296) ≤ 18446744065119617025) ∧
    (0 ≤ x / 4294967296 * (y / 4294967296) ∧ x / 4294967296 * (y / 4294967296) ≤ 18446744065119617025) ∧
    x * y = x / 4294967296 * (y / 4294967296) * 18446744073709551616 + (x / 4294967296 * (y % 4294967296) + x % 4294967296 * (y / 4294967296)) * 4294967296 + x % 4294967296 * (y % 4294967296) := by
  rw [u64_iff] at hx hy
  have a1 : 0 ≤ x % 4294967296 ∧ x % 4294967296 ≤ 4294967295 := by omega
  have a2 : 0 ≤ x / 4294967296 ∧ x / 4294967296 ≤ 4294967295 := by omega
  have b1 : 0 ≤ y % 4294967296 ∧ y % 4294967296 ≤ 4294967295 := by omega
  have b2 : 0 ≤ y / 4294967296 ∧ y / 4294967296 ≤ 4294967295 := by omega
  refine ⟨abs_mul_le a1 b1, abs_mul_le a2 b1, abs_mul_le a1 b2, abs_mul_le a2 b2, ?_⟩
  have ex : x = x / 4294967296 * 4294967296 + x % 4294967296 := by omega
  have ey : y = y / 4294967296 * 4294967296 + y % 4294967296 := by omega
  generalize x / 4294967296 = p at *
  generalize x % 4294967296 = q at *
  generalize y / 4294967296 = r at *
  generalize y % 4294967296 = s at *
  subst ex; subst ey
  simp only [Int.mul_add, Int.add_mul]
  have e1 : p * 4294967296 * (r * 4294967296) = p * r * 18446744073709551616 := by
    rw [Int.mul_assoc p, Int.mul_left_comm 4294967296 r, ← Int.mul_assoc]; rfl
  have e2 : p * 4294967296 * s = p * s * 4294967296 := by rw [Int.mul_assoc, Int.mul_comm 4294967296 s, Int.mul_assoc]
  have e3 : q * (r * 4294967296) = q * r * 4294967296 := by rw [Int.mul_assoc]
  rw [e1, e2, e3]
  omega
theorem or_shift {hi lo : Int} (hh : 0 ≤ hi ∧ hi ≤ 4294967295) (hl : 0 ≤ lo ∧ lo ≤ 4294967295) : bit2 .or .u64 (hi * 4294967296) lo = hi * 4294967296 + lo := by
  rw [or_u64 ⟨by omega, by omega⟩ ⟨by omega, by omega⟩]
  have e : (hi * 4294967296).toNat = 2 ^ 32 * hi.toNat := by omega
  rw [e, ← Nat.two_pow_add_eq_or_of_lt (i := 32) (b := lo.toNat) (by omega)]
  omega
theorem and_low {x : Int} (h : U64 x) : bit2 .and .u64 x 4294967295 = x % 4294967296 := by
  rw [u64_iff] at h
  rw [and_u64 ⟨by omega, by omega⟩ ⟨by omega, by omega⟩]
  have e : ((4294967295 : Int).toNat) = 2 ^ 32 - 1 := rfl
  rw [e, Nat.and_two_pow_sub_one_eq_mod]
  omega
theorem shr32 {x : Int} (k : IntKind) (hk : 32 ≤ k.bits) : shrI k x 32 = x / 4294967296 := by
  unfold shrI
  rw [show min (32 : Int).toNat k.bits = 32 by simp; omega]
  exact Int.fdiv_eq_ediv_of_nonneg _ (by decide)
theorem shr63 {x : Int} (k : IntKind) (hk : 63 ≤ k.bits) : shrI k x 63 = x / 9223372036854775808 := by
  unfold shrI
  rw [show min (63 : Int).toNat k.bits = 63 by simp; omega]
  exact Int.fdiv_eq_ediv_of_nonneg _ (by decide)
theorem shl32 {x : Int} : shlI .u64 x 32 = x * 4294967296 % 18446744073709551616 := by
  unfold shlI
  rw [show min (32 : Int).toNat (IntKind.bits .u64) = 32 by rfl]
  show wr .u64 _ = _
  rw [wr_u64]; rfl
end Go.UM

namespace Go.UM
open Go.AM
set_option maxRecDepth 4000
abbrev T3.I (t : T3) : Prop := I64 t.a ∧ I64 t.b ∧ I64 t.c
def vadd (x y : T3) : T3 := ⟨tadd x.a y.a, tadd x.b y.b, tadd x.c y.c⟩
def vmul (x y : T3) : T3 := ⟨tmul x.a y.a, tmul x.b y.b, tmul x.c y.c⟩
def one3 : T3 := ⟨4294967296, 4294967296, 4294967296⟩
def dot (x y : T3) : Int := tadd (tadd (tmul x.a y.a) (tmul x.b y.b)) (tmul x.c y.c)
def sizeI (x : Int) : Int := if x < 0 then sat (-x) else x
def mostT (v : T3) : Int := max (max (sizeI v.a) (sizeI v.b)) (sizeI v.c)
def rnd (x : Int) : Int := (x + 2147483648) / 4294967296
def vof (p : T3) : T3 := ⟨sat (p.a * 4294967296), sat (p.b * 4294967296), sat (p.c * 4294967296)⟩
theorem tadd_in (x y : Int) : I64 (tadd x y) := sat_in _
theorem tmul_in (x y : Int) : I64 (tmul x y) := sat_in _
theorem vadd_in (x y : T3) : (vadd x y).I := ⟨tadd_in _ _, tadd_in _ _, tadd_in _ _⟩
theorem vmul_in (x y : T3) : (vmul x y).I := ⟨tmul_in _ _, tmul_in _ _, tmul_in _ _⟩
theorem dot_in (x y : T3) : I64 (dot x y) := tadd_in _ _
theorem vof_in (p : T3) : (vof p).I := ⟨sat_in _, sat_in _, sat_in _⟩
theorem tadd0 {x : Int} (h : I64 x) : tadd 0 x = x := by unfold tadd; rw [Int.zero_add, sat_id h]
theorem tadd_0 {x : Int} (h : I64 x) : tadd x 0 = x := by unfold tadd; rw [Int.add_zero, sat_id h]
theorem tmul1 {x : Int} (h : I64 x) : tmul 4294967296 x = x := by unfold tmul; rw [Int.mul_ediv_cancel_left _ (by decide), sat_id h]
theorem tmul_1 {x : Int} (h : I64 x) : tmul x 4294967296 = x := by unfold tmul; rw [Int.mul_ediv_cancel _ (by decide), sat_id h]
theorem tmul0 (x : Int) : tmul 0 x = 0 := by unfold tmul; rw [Int.zero_mul]; rfl
theorem tmul_0 (x : Int) : tmul x 0 = 0 := by unfold tmul; rw [Int.mul_zero]; rfl
theorem vadd0 {x : T3} (h : x.I) : vadd z3 x = x := by simp only [vadd, z3, tadd0 h.1, tadd0 h.2.1, tadd0 h.2.2]
theorem vmul1 {x : T3} (h : x.I) : vmul one3 x = x := by simp only [vmul, one3, tmul1 h.1, tmul1 h.2.1, tmul1 h.2.2]
theorem z3_in : z3.I := ⟨⟨by decide, by decide⟩, ⟨by decide, by decide⟩, ⟨by decide, by decide⟩⟩
theorem one3_in : one3.I := ⟨⟨by decide, by decide⟩, ⟨by decide, by decide⟩, ⟨by decide, by decide⟩⟩
structure Af where
  (m0 m1 m2 m3 m4 m5 m6 m7 m8 : Int)
  t : T3
def Af.row (a : Af) : List AV := [.int .i64 a.m0, .int .i64 a.m1, .int .i64 a.m2, .int .i64 a.m3, .int .i64 a.m4, .int .i64 a.m5, .int .i64 a.m6, .int .i64 a.m7, .int .i64 a.m8, .int .i64 a.t.a, .int .i64 a.t.b, .int .i64 a.t.c]
def Af.mrow (a : Af) : List AV := [.int .i64 a.m0, .int .i64 a.m1, .int .i64 a.m2, .int .i64 a.m3, .int .i64 a.m4, .int .i64 a.m5, .int .i64 a.m6, .int .i64 a.m7, .int .i64 a.m8]
structure Af.I (a : Af) : Prop where
  m0 : I64 a.m0
  m1 : I64 a.m1
  m2 : I64 a.m2
  m3 : I64 a.m3
  m4 : I64 a.m4
  m5 : I64 a.m5
  m6 : I64 a.m6
  m7 : I64 a.m7
  m8 : I64 a.m8
  t : a.t.I
def Af.rw (a : Af) : Nat → T3
  | 0 => ⟨a.m0, a.m1, a.m2⟩ | 1 => ⟨a.m3, a.m4, a.m5⟩ | _ => ⟨a.m6, a.m7, a.m8⟩
def Af.cl (a : Af) : Nat → T3
  | 0 => ⟨a.m0, a.m3, a.m6⟩ | 1 => ⟨a.m1, a.m4, a.m7⟩ | _ => ⟨a.m2, a.m5, a.m8⟩
theorem Af.I.rw {a : Af} (h : a.I) (i : Nat) : (a.rw i).I := by
  unfold Af.rw; split
  · exact ⟨h.m0, h.m1, h.m2⟩
  · exact ⟨h.m3, h.m4, h.m5⟩
  · exact ⟨h.m6, h.m7, h.m8⟩
theorem Af.I.cl {a : Af} (h : a.I) (i : Nat) : (a.cl i).I := by
  unfold Af.cl; split
  · exact ⟨h.m0, h.m3, h.m6⟩
  · exact ⟨h.m1, h.m4, h.m7⟩
  · exact ⟨h.m2, h.m5, h.m8⟩
def same4 : Af := ⟨4294967296, 0, 0, 0, 4294967296, 0, 0, 0, 4294967296, z3⟩
def move4 (v : T3) : Af := ⟨4294967296, 0, 0, 0, 4294967296, 0, 0, 0, 4294967296, v⟩
def cols (x y z t : T3) : Af := ⟨x.a, y.a, z.a, x.b, y.b, z.b, x.c, y.c, z.c, t⟩
def ax0 : T3 := ⟨4294967296, 0, 0⟩
def ax1 : T3 := ⟨0, 4294967296, 0⟩
def ax2 : T3 := ⟨0, 0, 4294967296⟩
def axes4 : List T3 → Af
  | [] => cols ax0 ax1 ax2 z3
  | [x] => cols x ax1 ax2 z3
  | [x, y] => cols x y ax2 z3
  | [x, y, z] => cols x y z z3
  | x :: y :: z :: t :: _ => cols x y z t
def turn4 (a : Af) (v : T3) : T3 := ⟨dot (a.rw 0) v, dot (a.rw 1) v, dot (a.rw 2) v⟩
def apply4 (a : Af) (v : T3) : T3 := vadd (turn4 a v) a.t
theorem turn_in (a : Af) (v : T3) : (turn4 a v).I := ⟨dot_in _ _, dot_in _ _, dot_in _ _⟩
theorem apply_in (a : Af) (v : T3) : (apply4 a v).I := vadd_in _ _
def comp4 (f g : Af) : Af := cols (turn4 g (f.cl 0)) (turn4 g (f.cl 1)) (turn4 g (f.cl 2)) (apply4 g f.t)
def then4 : List Af → Af
  | [] => same4
  | f :: r => r.foldl comp4 f
theorem comp_in (f g : Af) : (comp4 f g).I := by
  have h0 := turn_in g (f.cl 0)
  have h1 := turn_in g (f.cl 1)
  have h2 := turn_in g (f.cl 2)
  exact ⟨h0.1, h1.1, h2.1, h0.2.1, h1.2.1, h2.2.1, h0.2.2, h1.2.2, h2.2.2, apply_in g f.t⟩
theorem same_in : same4.I := by
  refine ⟨?_, ?_, ?_, ?_, ?_, ?_, ?_, ?_, ?_, z3_in⟩ <;> exact ⟨by decide, by decide⟩
def off40 (x : Int) : Bool := decide (1099511627776 < x) || decide (x < -1099511627776)
def ms (a : Af) : List Int := [a.m0, a.m1, a.m2, a.m3, a.m4, a.m5, a.m6, a.m7, a.m8]
def chk4 (a : Af) : Int := if (ms a).any off40 = true then 2 else if 562949953421312 < mostT a.t then 2 else 0
end Go.UM

namespace Go.UM
open Go.AM
set_option maxRecDepth 4000
def sub64E : Array Value → Sem Value := fun args => do
  let (x, y, b) ← Extern.MathBitsCarry.three "Sub64" args
  pure (Extern.MathBitsCarry.pair ((x + Extern.MathBitsCarry.m64 - y - b) % Extern.MathBitsCarry.m64) (if x < y + b then 1 else 0))
theorem sub64_run {P : Program} (x y b : Nat) (hb : b ≤ 1) (w : World) : (sub64E #[.int .u64 x, .int .u64 y, .int .u64 b]).run P w =
    .ok (.tuple #[.int .u64 (((x + 18446744073709551616 - y - b) % 18446744073709551616 : Nat) : Int), .int .u64 ((if x < y + b then 1 else 0 : Nat) : Int)]) w := by
  have : b = 0 ∨ b = 1 := by omega
  rcases this with rfl | rfl <;> rfl
theorem sub64_row {fn : Func} (hn : fn.name = "math/bits.Sub64") (ho : fn.origin = "") : (fn.name == "runtime.NumGoroutine") = false ∧ Extern.findNext fn = none ∧ Extern.find fn = some sub64E := by
  obtain ⟨name, origin⟩ := fn
  simp only at hn ho
  subst hn; subst ho
  exact ⟨by kernel_rfl, by kernel_rfl, by kernel_rfl⟩
theorem sub64_x {R : Env} (h : R.Xn 286 "math/bits.Sub64") {x y b : Int} (hx : inI .u64 x) (hy : inI .u64 y) (hb : 0 ≤ b ∧ b ≤ 1) :
    XCalls R.P (R.ft 286) [.int .u64 x, .int .u64 y, .int .u64 b] (.tup [.int .u64 ((x - y - b) % 18446744073709551616), .int .u64 (if x < y + b then 1 else 0)]) := by
  obtain ⟨fn, hf, hn, ho, hbd⟩ := h.fn
  obtain ⟨r1, r2, r3⟩ := sub64_row hn ho
  have hx : 0 ≤ x ∧ x ≤ 18446744073709551615 := hx
  have hy : 0 ≤ y ∧ y ≤ 18446744073709551615 := hy
  intro ρ L I N w vs hv
  obtain ⟨hl, hr⟩ := hv
  obtain ⟨v0, v1, v2, rfl⟩ : ∃ v0 v1 v2, vs = [v0, v1, v2] := by
    match vs, hl with
    | [a, b, c], _ => exact ⟨a, b, c, rfl⟩
  have e0 : Rep ρ L I w N (.int .u64 x) v0 := hr 0 (by simp)
  have e1 : Rep ρ L I w N (.int .u64 y) v1 := hr 1 (by simp)
  have e2 : Rep ρ L I w N (.int .u64 b) v2 := hr 2 (by simp)
  cases e0; cases e1; cases e2
  obtain ⟨X, rfl⟩ := Int.eq_ofNat_of_zero_le hx.1
  obtain ⟨Y, rfl⟩ := Int.eq_ofNat_of_zero_le hy.1
  obtain ⟨B, rfl⟩ := Int.eq_ofNat_of_zero_le hb.1
  refine ⟨_, by rw [run_callFunc_extern hf r1 hbd r2 r3, show ([Value.int .u64 (X : Int), .int .u64 (Y : Int), .int .u64 (B : Int)].toArray) = #[Value.int .u64 (X : Int), .int .u64 (Y : Int), .int .u64 (B : Int)] from rfl, sub64_run X Y B (by omega)]; rfl, ?_⟩
  have q1 : ((X : Int) - Y - B) % 18446744073709551616 = (((X + 18446744073709551616 - Y - B) % 18446744073709551616 : Nat) : Int) := by omega
  have q2 : (if (X : Int) < Y + B then (1 : Int) else 0) = ((if X < Y + B then 1 else 0 : Nat) : Int) := by
    by_cases hc : X < Y + B
    · rw [if_pos hc, if_pos (by omega)]; rfl
    · rw [if_neg hc, if_neg (by omega)]; rfl
  rw [q1, q2]
  refine Rep.tup _ _ rfl ?_
  intro j hj
  match j, hj with
  | 0, _ => exact Rep.int _ _
  | 1, _ => exact Rep.int _ _
end Go.UM

namespace Go.UM
open Go.AM
set_option maxRecDepth 4000
def wrow (v : Int) : List AV := [.int .i64 (whi v), .int .u64 (wlo v)]
def sgn (s : Bool) (P : Int) : Int := bif s then -P else P
theorem size_c {R : Env} (h : N275 R) {n : Int} (hn : I64 n) : R.Pc 275 [.int .i64 n] (.tup [.int .u64 (absI n), .bool (decide (n < 0))]) :=
  h.o275.enter 60 rfl fun X bb hfit hp => by
    rw [i64_iff] at hn
    refine sh ?_
    refine cS (fun h1 => ?_) (fun h1 => ?_)
    · refine sh ?_
      refine iwr_any ?_
      refine sh ?_
      refine iwr_any ?_
      refine sh ?_
      refine rT ?_
      all_goals repeat' (first | exact True.intro | refine And.intro ?_ ?_ | (intro _u; clear _u) | (with_reducible first | refine eM ?_ ?_ | refine eF ?_ ?_ ?_ | refine eN ?_ | refine eL ?_ ?_ ?_ | refine eA ?_ ?_ | refine IWk.mk ⟨_, hp, rfl⟩ ?_ ?_) | refine IWk.mk ⟨_, hp, rfl⟩ ?_ ?_)
      all_goals first | with_reducible rfl | omega | exact Or.inl (by decide) | (simp; done) | rfl | skip
      all_goals first | (rw [wr_u64, wr_u64, absI, if_pos h1]; omega) | (simp; omega)
    · refine sh ?_
      refine rT ?_
      all_goals repeat' (first | exact True.intro | refine And.intro ?_ ?_ | (intro _u; clear _u) | (with_reducible first | refine eM ?_ ?_ | refine eF ?_ ?_ ?_ | refine eN ?_ | refine eL ?_ ?_ ?_ | refine eA ?_ ?_ | refine IWk.mk ⟨_, hp, rfl⟩ ?_ ?_) | refine IWk.mk ⟨_, hp, rfl⟩ ?_ ?_)
      all_goals first | with_reducible rfl | omega | exact Or.inl (by decide) | (simp; done) | rfl | skip
      all_goals first | (rw [absI, if_neg (by omega)]) | (simp; omega)
theorem mulhi_e {x y : Int} (hx : U64 x) (hy : U64 y) : wr .u64 (wr .u64 (wr .u64 (shrI .u64 x 32 * shrI .u64 y 32) + shrI .u64 (wr .u64 (wr .u64 (shrI .u64 x 32 * bit2 .and .u64 y 4294967295) + shrI .u64 (wr .u64 (bit2 .and .u64 x 4294967295 * bit2 .and .u64 y 4294967295)) 32)) 32) +
      shrI .u64 (wr .u64 (bit2 .and .u64 (wr .u64 (wr .u64 (shrI .u64 x 32 * bit2 .and .u64 y 4294967295) + shrI .u64 (wr .u64 (bit2 .and .u64 x 4294967295 * bit2 .and .u64 y 4294967295)) 32)) 4294967295 + wr .u64 (bit2 .and .u64 x 4294967295 * shrI .u64 y 32))) 32) = whi (x * y) := by
  have k := fun v => shr32 (x := v) .u64 (by decide)
  simp only [k, and_low hx, and_low hy]
  rw [and_low (wr_inI .u64 _)]
  obtain ⟨p1, p2, p3, p4, e⟩ := mul64_e hx hy
  rw [e]
  simp only [wr_u64, whi]
  generalize x % 4294967296 * (y % 4294967296) = A at *
  generalize x / 4294967296 * (y % 4294967296) = B at *
  generalize x % 4294967296 * (y / 4294967296) = C at *
  generalize x / 4294967296 * (y / 4294967296) = D at *
  omega
theorem mul64_c {R : Env} (h : N276 R) {x y : Int} (hx : U64 x) (hy : U64 y) : R.Pc 276 [.int .u64 x, .int .u64 y] (.tup [.int .u64 (whi (x * y)), .int .u64 (wlo (x * y))]) :=
  h.o276.enter 60 rfl fun X bb hfit hp => by
    refine sh ?_
    refine iwr_any ?_
    refine sh ?_
    refine iwr_any ?_
    refine sh ?_
    refine iwr_any ?_
    refine sh ?_
    refine iwr_any ?_
    refine sh ?_
    refine iwr_any ?_
    refine sh ?_
    refine iwr_any ?_
    refine sh ?_
    refine iwr_any ?_
    refine sh ?_
    refine iwr_any ?_
    refine sh ?_
    refine iwr_any ?_
    refine sh ?_
    refine rT ?_
    all_goals repeat' (first | exact True.intro | refine And.intro ?_ ?_ | (intro _u; clear _u) | (with_reducible first | refine eM ?_ ?_ | refine eF ?_ ?_ ?_ | refine eN ?_ | refine eL ?_ ?_ ?_ | refine eA ?_ ?_ | refine IWk.mk ⟨_, hp, rfl⟩ ?_ ?_) | refine IWk.mk ⟨_, hp, rfl⟩ ?_ ?_)
    all_goals first | with_reducible rfl | omega | exact Or.inl (by decide) | (simp; done) | rfl | skip
    all_goals first | exact mulhi_e hx hy | (rw [wr_u64]; rfl)
theorem turned_c {R : Env} (h : N283 R) {P : Int} (hP : 0 ≤ P ∧ P ≤ 85070591730234615865843651857942052864) : R.Pc 283 [.int .u64 (whi P), .int .u64 (wlo P)] (.tup [.int .u64 (whi (-P) % 18446744073709551616), .int .u64 (wlo (-P))]) :=
  h.o283.enter 60 rfl fun X bb hfit hp => by
    refine sh ?_
    refine ICallX.mk ⟨_, sub64_x h.n286.x286 (x := 0) (b := 0) ⟨by omega, by omega⟩ (wlo_in P) ⟨by omega, by omega⟩, ?_⟩
    refine sh ?_
    refine ICallX.mk ⟨_, sub64_x h.n286.x286 (x := 0) ⟨by omega, by omega⟩ (y := whi P) ⟨by unfold whi; omega, by unfold whi; omega⟩ ⟨by split <;> omega, by split <;> omega⟩, ?_⟩
    refine sh ?_
    refine rT ?_
    all_goals repeat' (first | exact True.intro | refine And.intro ?_ ?_ | (intro _u; clear _u) | (with_reducible first | refine eM ?_ ?_ | refine eF ?_ ?_ ?_ | refine eN ?_ | refine eL ?_ ?_ ?_ | refine eA ?_ ?_ | refine IWk.mk ⟨_, hp, rfl⟩ ?_ ?_) | refine IWk.mk ⟨_, hp, rfl⟩ ?_ ?_)
    all_goals first | with_reducible rfl | omega | exact Or.inl (by decide) | (simp; done) | rfl | skip
    all_goals first | (unfold wlo; omega) | (unfold whi wlo; split <;> omega)
theorem signed_c {R : Env} (h : N277 R) {P : Int} (hP : 0 ≤ P ∧ P ≤ 85070591730234615865843651857942052864) (s : Bool) : R.Pc 277 [.int .u64 (whi P), .int .u64 (wlo P), .bool s] (.tup [.agg (wrow (sgn s P)), .bool true]) :=
  h.o277.enter 60 rfl fun X bb hfit hp => by
    have i1 := whi_in (v := P) ⟨by omega, hP.2⟩
    have i2 := whi_in (v := -P) ⟨by omega, by omega⟩
    cases s with
    | false =>
      have i3 : 0 ≤ whi P := by unfold whi; omega
      refine sh ?_
      refine acnd_t (by (simp; omega)) ?_
      refine sh ?_
      exact rT
    | true =>
      refine sh ?_
      refine ICall.pure h.n283.o283.hb (turned_c h.n283 hP) rfl ?_
      refine sh ?_
      refine iwr_eq (m := whi (-P)) (by rw [wr_i64]; omega) ?_
      by_cases h0 : P = 0
      · subst h0
        refine sh ?_
        refine acnd_f (by (simp [whi])) ?_
        refine sh ?_
        refine rT ?_
        all_goals repeat' (first | exact True.intro | refine And.intro ?_ ?_ | (intro _u; clear _u) | (with_reducible first | refine eM ?_ ?_ | refine eF ?_ ?_ ?_ | refine eN ?_ | refine eL ?_ ?_ ?_ | refine eA ?_ ?_ | refine IWk.mk ⟨_, hp, rfl⟩ ?_ ?_) | refine IWk.mk ⟨_, hp, rfl⟩ ?_ ?_)
        all_goals first | with_reducible rfl | omega | exact Or.inl (by decide) | (simp; done) | rfl | skip
        all_goals first | rfl | decide
      · refine sh ?_
        refine acnd_t (by (simp; unfold whi; omega)) ?_
        refine sh ?_
        exact rT
end Go.UM

namespace Go.UM
open Go.AM
set_option maxRecDepth 4000
theorem sgn_abs (a b : Int) : sgn (decide (a < 0) != decide (b < 0)) (absI a * absI b) = a * b := by
  rw [mul_abs a b]; unfold sgn
  cases (decide (a < 0) != decide (b < 0)) <;> simp
theorem abs_prod {a b : Int} (ha : I64 a) (hb : I64 b) : 0 ≤ absI a * absI b ∧ absI a * absI b ≤ 85070591730234615865843651857942052864 := by
  have := abs_mul_le (absI_in ha) (absI_in hb)
  omega
theorem abs_u64 {a : Int} (ha : I64 a) : U64 (absI a) := by have := absI_in ha; rw [u64_iff]; omega
theorem mul_c {R : Env} (h : N264 R) {a b : Int} (ha : I64 a) (hb : I64 b) : R.Pc 264 [.int .i64 a, .int .i64 b] (.agg (wrow (a * b))) :=
  h.o264.enter 60 rfl fun X bb hfit hp => by
    refine sh ?_
    refine ICall.pure h.n275.o275.hb (size_c h.n275 ha) rfl ?_
    refine sh ?_
    refine ICall.pure h.n275.o275.hb (size_c h.n275 hb) rfl ?_
    refine sh ?_
    refine ICall.pure h.n276.o276.hb (mul64_c h.n276 (abs_u64 ha) (abs_u64 hb)) rfl ?_
    have c := signed_c h.n277 (abs_prod ha hb) (decide (a < 0) != decide (b < 0))
    rw [sgn_abs] at c
    refine sh ?_
    refine ICall.pure h.n277.o277.hb c rfl ?_
    refine sh ?_
    exact rT
theorem int_y {R : Env} (h : N274 R) {v : Int} (hv : I64 v) : R.Pc 274 [.agg (wrow v)] (.tup [.int .i64 v, .bool true]) :=
  h.o274.enter 60 rfl fun X bb hfit hp => by
    rw [i64_iff] at hv
    have h2 := wlo_in v
    refine sh ?_
    refine iwr_eq (m := v) (by rw [wr_i64]; unfold wlo; omega) ?_
    refine sh ?_
    refine acnd_f (by (rw [shr63 .i64 (by decide)]; simp; unfold whi; omega)) ?_
    refine sh ?_
    exact rT
theorem int_n {R : Env} (h : N274 R) {v : Int} (hv : W126 v) (hn : ¬ I64 v) : R.Pc 274 [.agg (wrow v)] (.tup [.int .i64 0, .bool false]) :=
  h.o274.enter 60 rfl fun X bb hfit hp => by
    have h1 := whi_in hv
    have h2 := wlo_in v
    rw [i64_iff] at hn
    refine sh ?_
    refine iwr_any ?_
    refine sh ?_
    refine acnd_t (by (rw [shr63 .i64 (by decide), wr_i64]; simp; unfold whi wlo; omega)) ?_
    refine sh ?_
    exact rT
theorem near_c {R : Env} (h : N265 R) {v : Int} (hv : W126 v) : R.Pc 265 [.agg (wrow v)] (.int .i64 (sat v)) :=
  h.o265.enter 60 rfl fun X bb hfit hp => by
    by_cases hi : I64 v
    · refine sh ?_
      refine ICall.pure h.n274.o274.hb (int_y h.n274 hi) rfl ?_
      refine sh ?_
      refine rT ?_
      all_goals repeat' (first | exact True.intro | refine And.intro ?_ ?_ | (intro _u; clear _u) | (with_reducible first | refine eM ?_ ?_ | refine eF ?_ ?_ ?_ | refine eN ?_ | refine eL ?_ ?_ ?_ | refine eA ?_ ?_ | refine IWk.mk ⟨_, hp, rfl⟩ ?_ ?_) | refine IWk.mk ⟨_, hp, rfl⟩ ?_ ?_)
      all_goals first | with_reducible rfl | omega | exact Or.inl (by decide) | (simp; done) | rfl | skip
      all_goals exact (sat_id hi).symm
    · have hi2 := hi
      rw [i64_iff] at hi2
      refine sh ?_
      refine ICall.pure h.n274.o274.hb (int_n h.n274 hv hi) rfl ?_
      refine sh ?_
      refine cS (fun h1 => ?_) (fun h1 => ?_)
      · have h2 : v < 0 := by unfold whi at h1; omega
        refine sh ?_
        refine rT ?_
        all_goals repeat' (first | exact True.intro | refine And.intro ?_ ?_ | (intro _u; clear _u) | (with_reducible first | refine eM ?_ ?_ | refine eF ?_ ?_ ?_ | refine eN ?_ | refine eL ?_ ?_ ?_ | refine eA ?_ ?_ | refine IWk.mk ⟨_, hp, rfl⟩ ?_ ?_) | refine IWk.mk ⟨_, hp, rfl⟩ ?_ ?_)
        all_goals first | with_reducible rfl | omega | exact Or.inl (by decide) | (simp; done) | rfl | skip
        all_goals (unfold sat; rw [if_neg (by omega), if_pos (by omega)])
      · have h2 : 0 ≤ v := by unfold whi at h1; omega
        refine sh ?_
        refine rT ?_
        all_goals repeat' (first | exact True.intro | refine And.intro ?_ ?_ | (intro _u; clear _u) | (with_reducible first | refine eM ?_ ?_ | refine eF ?_ ?_ ?_ | refine eN ?_ | refine eL ?_ ?_ ?_ | refine eA ?_ ?_ | refine IWk.mk ⟨_, hp, rfl⟩ ?_ ?_) | refine IWk.mk ⟨_, hp, rfl⟩ ?_ ?_)
        all_goals first | with_reducible rfl | omega | exact Or.inl (by decide) | (simp; done) | rfl | skip
        all_goals (unfold sat; rw [if_pos (by omega)])
theorem or_shift' {hi lo : Int} (hh : 0 ≤ hi ∧ hi ≤ 4294967295) (hl : 0 ≤ lo ∧ lo ≤ 4294967295) : bit2 .or .u64 lo (hi * 4294967296) = hi * 4294967296 + lo := by
  rw [← or_shift hh hl, or_u64 ⟨by omega, by omega⟩ ⟨by omega, by omega⟩, or_u64 ⟨by omega, by omega⟩ ⟨by omega, by omega⟩, Nat.or_comm]
theorem shr_c {R : Env} (h : N285 R) {v : Int} (hv : W126 v) : R.Pc 285 [.agg (wrow v), .int .i64 32] (.agg (wrow (v / 4294967296))) :=
  h.o285.enter 60 rfl fun X bb hfit hp => by
    have h1 := whi_in hv
    have h2 := wlo_in v
    refine sh ?_
    refine acnd_f (by decide) ?_
    refine sh ?_
    refine acnd_f (by decide) ?_
    have e1 : shrI .i64 (whi v) (max 32 0) = whi (v / 4294967296) := by rw [show max (32 : Int) 0 = 32 from rfl, shr32 .i64 (by decide)]; unfold whi; omega
    have e2 : bit2 .or .u64 (shrI .u64 (wlo v) (max 32 0)) (shlI .u64 (wr .u64 (whi v)) (64 - max 32 0)) = wlo (v / 4294967296) := by
      rw [show max (32 : Int) 0 = 32 from rfl, shr32 .u64 (by decide)]
      have e : shlI .u64 (wr .u64 (whi v)) (64 - 32) = (whi v % 4294967296) * 4294967296 := by
        rw [show (64 - 32 : Int) = 32 from rfl, shl32, wr_u64]; omega
      rw [e, or_shift' (by omega) (by omega)]
      unfold whi wlo; omega
    refine sh ?_
    refine iwr_any ?_
    refine sh ?_
    refine rT ?_
    all_goals repeat' (first | exact True.intro | refine And.intro ?_ ?_ | (intro _u; clear _u) | (with_reducible first | refine eM ?_ ?_ | refine eF ?_ ?_ ?_ | refine eN ?_ | refine eL ?_ ?_ ?_ | refine eA ?_ ?_ | refine IWk.mk ⟨_, hp, rfl⟩ ?_ ?_) | refine IWk.mk ⟨_, hp, rfl⟩ ?_ ?_)
    all_goals first | with_reducible rfl | omega | exact Or.inl (by decide) | (simp; done) | rfl | skip
    all_goals first | exact e1 | exact e2
def sums (s : Int) (l : List Int) : Int := l.foldl tadd s
theorem fadd_c {R : Env} (h : N267 R) (l : List Int) (hl : l.length ≤ 1000) (hi : ∀ x ∈ l, I64 x) : R.Pc 267 [.isl 1 (slcK .i64 l)] (.int .i64 (sums 0 l)) :=
  h.o267.enter 100 rfl fun X bb hfit hp => by
    refine sh ?_
    refine lPa 100 (fun s : Nat × Int => s.1 ≤ l.length ∧ I64 s.2 ∧ sums 0 (l.take s.1) = s.2) (fun s => ⟨[(3, .int .i64 s.2), (7, .isl 1 (slcK .i64 l)), (8, .int .i64 l.length), (9, .int .i64 s.1)], [], 0⟩) (fun s => l.length - s.1) ((0, 0)) ?_ ?_
    · exact ⟨Nat.zero_le _, ⟨by decide, by decide⟩, rfl⟩
    · rintro ⟨k, s⟩ ⟨h1, h2, h3⟩
      dsimp only at h1 h2 h3 ⊢
      refine sh ?_
      refine cS (fun h4 => ?_) (fun h4 => ?_)
      · obtain ⟨x, hx⟩ : ∃ u_, l[k]? = some u_ := ⟨_, List.getElem?_eq_getElem (by first | omega | (simp <;> omega))⟩
        refine sh ?_
        refine eget_map hx ?_
        have ix := hi x (List.mem_of_getElem? hx)
        have hnx : sums 0 (l.take (k + 1)) = tadd s x := by rw [take_succ_get hx, sums, List.foldl_append]; unfold sums at h3; rw [h3]; rfl
        rw [i64_iff] at h2 ix
        refine sh ?_
        refine iwr_any ?_
        refine sh ?_
        refine cS (fun a1 => ?_) (fun a1 => ?_)
        · refine sh ?_
          refine cS (fun a2 => ?_) (fun a2 => ?_)
          · refine sh ?_
            refine cS (fun a3 => ?_) (fun a3 => ?_)
            · refine sh ?_
              refine nX ((k + 1, tadd s x)) ?_ ?_ ⟨_, hp, rfl⟩ ?_ ?_
              · exact ⟨by omega, tadd_in s x, hnx⟩
              · omega
              · all_goals repeat' (first | exact True.intro | refine And.intro ?_ ?_ | (intro _u; clear _u) | (with_reducible first | refine eM ?_ ?_ | refine eF ?_ ?_ ?_ | refine eN ?_ | refine eL ?_ ?_ ?_ | refine eA ?_ ?_ | refine IWk.mk ⟨_, hp, rfl⟩ ?_ ?_) | refine IWk.mk ⟨_, hp, rfl⟩ ?_ ?_)
                all_goals first | with_reducible rfl | omega | exact Or.inl (by decide) | (simp; done) | rfl | skip
                all_goals (unfold tadd sat; simp only [wr_i64] at *; split <;> first | omega | (split <;> omega))
              · all_goals repeat' (first | exact True.intro | refine And.intro ?_ ?_ | (intro _u; clear _u) | (with_reducible first | refine eM ?_ ?_ | refine eF ?_ ?_ ?_ | refine eN ?_ | refine eL ?_ ?_ ?_ | refine eA ?_ ?_ | refine IWk.mk ⟨_, hp, rfl⟩ ?_ ?_) | refine IWk.mk ⟨_, hp, rfl⟩ ?_ ?_)
                all_goals first | with_reducible rfl | omega | exact Or.inl (by decide) | (simp; done) | rfl | skip
            · refine sh ?_
              refine acnd_f (by (simp; omega)) ?_
              refine sh ?_
              refine nX ((k + 1, tadd s x)) ?_ ?_ ⟨_, hp, rfl⟩ ?_ ?_
              · exact ⟨by omega, tadd_in s x, hnx⟩
              · omega
              · all_goals repeat' (first | exact True.intro | refine And.intro ?_ ?_ | (intro _u; clear _u) | (with_reducible first | refine eM ?_ ?_ | refine eF ?_ ?_ ?_ | refine eN ?_ | refine eL ?_ ?_ ?_ | refine eA ?_ ?_ | refine IWk.mk ⟨_, hp, rfl⟩ ?_ ?_) | refine IWk.mk ⟨_, hp, rfl⟩ ?_ ?_)
                all_goals first | with_reducible rfl | omega | exact Or.inl (by decide) | (simp; done) | rfl | skip
                all_goals (unfold tadd sat; simp only [wr_i64] at *; split <;> first | omega | (split <;> omega))
              · all_goals repeat' (first | exact True.intro | refine And.intro ?_ ?_ | (intro _u; clear _u) | (with_reducible first | refine eM ?_ ?_ | refine eF ?_ ?_ ?_ | refine eN ?_ | refine eL ?_ ?_ ?_ | refine eA ?_ ?_ | refine IWk.mk ⟨_, hp, rfl⟩ ?_ ?_) | refine IWk.mk ⟨_, hp, rfl⟩ ?_ ?_)
                all_goals first | with_reducible rfl | omega | exact Or.inl (by decide) | (simp; done) | rfl | skip
          · refine sh ?_
            refine acnd_f (by (simp; omega)) ?_
            refine sh ?_
            refine nX ((k + 1, tadd s x)) ?_ ?_ ⟨_, hp, rfl⟩ ?_ ?_
            · exact ⟨by omega, tadd_in s x, hnx⟩
            · omega
            · all_goals repeat' (first | exact True.intro | refine And.intro ?_ ?_ | (intro _u; clear _u) | (with_reducible first | refine eM ?_ ?_ | refine eF ?_ ?_ ?_ | refine eN ?_ | refine eL ?_ ?_ ?_ | refine eA ?_ ?_ | refine IWk.mk ⟨_, hp, rfl⟩ ?_ ?_) | refine IWk.mk ⟨_, hp, rfl⟩ ?_ ?_)
              all_goals first | with_reducible rfl | omega | exact Or.inl (by decide) | (simp; done) | rfl | skip
              all_goals (unfold tadd sat; simp only [wr_i64] at *; split <;> first | omega | (split <;> omega))
            · all_goals repeat' (first | exact True.intro | refine And.intro ?_ ?_ | (intro _u; clear _u) | (with_reducible first | refine eM ?_ ?_ | refine eF ?_ ?_ ?_ | refine eN ?_ | refine eL ?_ ?_ ?_ | refine eA ?_ ?_ | refine IWk.mk ⟨_, hp, rfl⟩ ?_ ?_) | refine IWk.mk ⟨_, hp, rfl⟩ ?_ ?_)
              all_goals first | with_reducible rfl | omega | exact Or.inl (by decide) | (simp; done) | rfl | skip
        · refine sh ?_
          refine cS (fun b1 => ?_) (fun b1 => ?_)
          · refine sh ?_
            refine cS (fun b2 => ?_) (fun b2 => ?_)
            · refine sh ?_
              refine cS (fun b3 => ?_) (fun b3 => ?_)
              · refine sh ?_
                refine nX ((k + 1, tadd s x)) ?_ ?_ ⟨_, hp, rfl⟩ ?_ ?_
                · exact ⟨by omega, tadd_in s x, hnx⟩
                · omega
                · all_goals repeat' (first | exact True.intro | refine And.intro ?_ ?_ | (intro _u; clear _u) | (with_reducible first | refine eM ?_ ?_ | refine eF ?_ ?_ ?_ | refine eN ?_ | refine eL ?_ ?_ ?_ | refine eA ?_ ?_ | refine IWk.mk ⟨_, hp, rfl⟩ ?_ ?_) | refine IWk.mk ⟨_, hp, rfl⟩ ?_ ?_)
                  all_goals first | with_reducible rfl | omega | exact Or.inl (by decide) | (simp; done) | rfl | skip
                  all_goals (unfold tadd sat; simp only [wr_i64] at *; split <;> first | omega | (split <;> omega))
                · all_goals repeat' (first | exact True.intro | refine And.intro ?_ ?_ | (intro _u; clear _u) | (with_reducible first | refine eM ?_ ?_ | refine eF ?_ ?_ ?_ | refine eN ?_ | refine eL ?_ ?_ ?_ | refine eA ?_ ?_ | refine IWk.mk ⟨_, hp, rfl⟩ ?_ ?_) | refine IWk.mk ⟨_, hp, rfl⟩ ?_ ?_)
                  all_goals first | with_reducible rfl | omega | exact Or.inl (by decide) | (simp; done) | rfl | skip
              · refine sh ?_
                refine nX ((k + 1, tadd s x)) ?_ ?_ ⟨_, hp, rfl⟩ ?_ ?_
                · exact ⟨by omega, tadd_in s x, hnx⟩
                · omega
                · all_goals repeat' (first | exact True.intro | refine And.intro ?_ ?_ | (intro _u; clear _u) | (with_reducible first | refine eM ?_ ?_ | refine eF ?_ ?_ ?_ | refine eN ?_ | refine eL ?_ ?_ ?_ | refine eA ?_ ?_ | refine IWk.mk ⟨_, hp, rfl⟩ ?_ ?_) | refine IWk.mk ⟨_, hp, rfl⟩ ?_ ?_)
                  all_goals first | with_reducible rfl | omega | exact Or.inl (by decide) | (simp; done) | rfl | skip
                  all_goals (unfold tadd sat; simp only [wr_i64] at *; split <;> first | omega | (split <;> omega))
                · all_goals repeat' (first | exact True.intro | refine And.intro ?_ ?_ | (intro _u; clear _u) | (with_reducible first | refine eM ?_ ?_ | refine eF ?_ ?_ ?_ | refine eN ?_ | refine eL ?_ ?_ ?_ | refine eA ?_ ?_ | refine IWk.mk ⟨_, hp, rfl⟩ ?_ ?_) | refine IWk.mk ⟨_, hp, rfl⟩ ?_ ?_)
                  all_goals first | with_reducible rfl | omega | exact Or.inl (by decide) | (simp; done) | rfl | skip
            · refine sh ?_
              refine nX ((k + 1, tadd s x)) ?_ ?_ ⟨_, hp, rfl⟩ ?_ ?_
              · exact ⟨by omega, tadd_in s x, hnx⟩
              · omega
              · all_goals repeat' (first | exact True.intro | refine And.intro ?_ ?_ | (intro _u; clear _u) | (with_reducible first | refine eM ?_ ?_ | refine eF ?_ ?_ ?_ | refine eN ?_ | refine eL ?_ ?_ ?_ | refine eA ?_ ?_ | refine IWk.mk ⟨_, hp, rfl⟩ ?_ ?_) | refine IWk.mk ⟨_, hp, rfl⟩ ?_ ?_)
                all_goals first | with_reducible rfl | omega | exact Or.inl (by decide) | (simp; done) | rfl | skip
                all_goals (unfold tadd sat; simp only [wr_i64] at *; split <;> first | omega | (split <;> omega))
              · all_goals repeat' (first | exact True.intro | refine And.intro ?_ ?_ | (intro _u; clear _u) | (with_reducible first | refine eM ?_ ?_ | refine eF ?_ ?_ ?_ | refine eN ?_ | refine eL ?_ ?_ ?_ | refine eA ?_ ?_ | refine IWk.mk ⟨_, hp, rfl⟩ ?_ ?_) | refine IWk.mk ⟨_, hp, rfl⟩ ?_ ?_)
                all_goals first | with_reducible rfl | omega | exact Or.inl (by decide) | (simp; done) | rfl | skip
          · refine sh ?_
            refine nX ((k + 1, tadd s x)) ?_ ?_ ⟨_, hp, rfl⟩ ?_ ?_
            · exact ⟨by omega, tadd_in s x, hnx⟩
            · omega
            · all_goals repeat' (first | exact True.intro | refine And.intro ?_ ?_ | (intro _u; clear _u) | (with_reducible first | refine eM ?_ ?_ | refine eF ?_ ?_ ?_ | refine eN ?_ | refine eL ?_ ?_ ?_ | refine eA ?_ ?_ | refine IWk.mk ⟨_, hp, rfl⟩ ?_ ?_) | refine IWk.mk ⟨_, hp, rfl⟩ ?_ ?_)
              all_goals first | with_reducible rfl | omega | exact Or.inl (by decide) | (simp; done) | rfl | skip
              all_goals (unfold tadd sat; simp only [wr_i64] at *; split <;> first | omega | (split <;> omega))
            · all_goals repeat' (first | exact True.intro | refine And.intro ?_ ?_ | (intro _u; clear _u) | (with_reducible first | refine eM ?_ ?_ | refine eF ?_ ?_ ?_ | refine eN ?_ | refine eL ?_ ?_ ?_ | refine eA ?_ ?_ | refine IWk.mk ⟨_, hp, rfl⟩ ?_ ?_) | refine IWk.mk ⟨_, hp, rfl⟩ ?_ ?_)
              all_goals first | with_reducible rfl | omega | exact Or.inl (by decide) | (simp; done) | rfl | skip
      · rw [List.take_of_length_le (by omega)] at h3
        refine sh ?_
        refine rT ?_
        all_goals repeat' (first | exact True.intro | refine And.intro ?_ ?_ | (intro _u; clear _u) | (with_reducible first | refine eM ?_ ?_ | refine eF ?_ ?_ ?_ | refine eN ?_ | refine eL ?_ ?_ ?_ | refine eA ?_ ?_ | refine IWk.mk ⟨_, hp, rfl⟩ ?_ ?_) | refine IWk.mk ⟨_, hp, rfl⟩ ?_ ?_)
        all_goals first | with_reducible rfl | omega | exact Or.inl (by decide) | (simp; done) | rfl | skip
        all_goals exact h3.symm
theorem fmul_c {R : Env} (h : N284 R) {a b : Int} (ha : I64 a) (hb : I64 b) : R.Pc 284 [.isl 1 (slcK .i64 [a, b])] (.int .i64 (tmul a b)) :=
  h.o284.enter 100 rfl fun X bb hfit hp => by
    have hP := prod_in ha hb
    refine sh ?_
    refine ILoop.one 100 ?_
    refine sh ?_
    refine acnd_t (by simp) ?_
    refine sh ?_
    refine eget_map (show ([a, b] : List Int)[0]? = some a from rfl) ?_
    refine sh ?_
    refine acnd_t (by decide) ?_
    refine sh ?_
    refine ILoop.one 100 ?_
    refine sh ?_
    refine acnd_t (by simp) ?_
    refine sh ?_
    refine eget_map (show ([a, b] : List Int)[1]? = some b from rfl) ?_
    refine sh ?_
    refine acnd_f (by decide) ?_
    refine sh ?_
    refine ICall.pure h.n264.o264.hb (mul_c h.n264 ha hb) rfl ?_
    refine sh ?_
    refine ICall.pure h.n285.o285.hb (shr_c h.n285 hP) rfl ?_
    refine sh ?_
    refine ICall.pure h.n265.o265.hb (near_c h.n265 (v := a * b / 4294967296) (by omega)) rfl ?_
    refine sh ?_
    refine ILoop.one 100 ?_
    refine sh ?_
    refine acnd_f (by simp) ?_
    refine sh ?_
    exact rT
def tsub (a b : Int) : Int := sat (a - b)
theorem fsub_c {R : Env} (h : N281 R) {a b : Int} (ha : I64 a) (hb : I64 b) : R.Pc 281 [.int .i64 a, .int .i64 b] (.int .i64 (tsub a b)) :=
  h.o281.enter 100 rfl fun X bb hfit hp => by
    rw [i64_iff] at ha hb
    refine sh ?_
    refine iwr_any ?_
    refine sh ?_
    refine cS (fun a1 => ?_) (fun a1 => ?_)
    · refine sh ?_
      refine cS (fun a2 => ?_) (fun a2 => ?_)
      · refine sh ?_
        refine cS (fun a3 => ?_) (fun a3 => ?_)
        · refine sh ?_
          refine rT ?_
          all_goals repeat' (first | exact True.intro | refine And.intro ?_ ?_ | (intro _u; clear _u) | (with_reducible first | refine eM ?_ ?_ | refine eF ?_ ?_ ?_ | refine eN ?_ | refine eL ?_ ?_ ?_ | refine eA ?_ ?_ | refine IWk.mk ⟨_, hp, rfl⟩ ?_ ?_) | refine IWk.mk ⟨_, hp, rfl⟩ ?_ ?_)
          all_goals first | with_reducible rfl | omega | exact Or.inl (by decide) | (simp; done) | rfl | skip
          all_goals (unfold tsub sat; simp only [wr_i64] at *; split <;> first | omega | (split <;> omega))
        · refine sh ?_
          refine acnd_f (by (simp; omega)) ?_
          refine sh ?_
          refine rT ?_
          all_goals repeat' (first | exact True.intro | refine And.intro ?_ ?_ | (intro _u; clear _u) | (with_reducible first | refine eM ?_ ?_ | refine eF ?_ ?_ ?_ | refine eN ?_ | refine eL ?_ ?_ ?_ | refine eA ?_ ?_ | refine IWk.mk ⟨_, hp, rfl⟩ ?_ ?_) | refine IWk.mk ⟨_, hp, rfl⟩ ?_ ?_)
          all_goals first | with_reducible rfl | omega | exact Or.inl (by decide) | (simp; done) | rfl | skip
          all_goals (unfold tsub sat; simp only [wr_i64] at *; split <;> first | omega | (split <;> omega))
      · refine sh ?_
        refine acnd_f (by (simp; omega)) ?_
        refine sh ?_
        refine rT ?_
        all_goals repeat' (first | exact True.intro | refine And.intro ?_ ?_ | (intro _u; clear _u) | (with_reducible first | refine eM ?_ ?_ | refine eF ?_ ?_ ?_ | refine eN ?_ | refine eL ?_ ?_ ?_ | refine eA ?_ ?_ | refine IWk.mk ⟨_, hp, rfl⟩ ?_ ?_) | refine IWk.mk ⟨_, hp, rfl⟩ ?_ ?_)
        all_goals first | with_reducible rfl | omega | exact Or.inl (by decide) | (simp; done) | rfl | skip
        all_goals (unfold tsub sat; simp only [wr_i64] at *; split <;> first | omega | (split <;> omega))
    · refine sh ?_
      refine cS (fun b1 => ?_) (fun b1 => ?_)
      · refine sh ?_
        refine cS (fun b2 => ?_) (fun b2 => ?_)
        · refine sh ?_
          refine cS (fun b3 => ?_) (fun b3 => ?_)
          · refine sh ?_
            refine rT ?_
            all_goals repeat' (first | exact True.intro | refine And.intro ?_ ?_ | (intro _u; clear _u) | (with_reducible first | refine eM ?_ ?_ | refine eF ?_ ?_ ?_ | refine eN ?_ | refine eL ?_ ?_ ?_ | refine eA ?_ ?_ | refine IWk.mk ⟨_, hp, rfl⟩ ?_ ?_) | refine IWk.mk ⟨_, hp, rfl⟩ ?_ ?_)
            all_goals first | with_reducible rfl | omega | exact Or.inl (by decide) | (simp; done) | rfl | skip
            all_goals (unfold tsub sat; simp only [wr_i64] at *; split <;> first | omega | (split <;> omega))
          · refine sh ?_
            refine rT ?_
            all_goals repeat' (first | exact True.intro | refine And.intro ?_ ?_ | (intro _u; clear _u) | (with_reducible first | refine eM ?_ ?_ | refine eF ?_ ?_ ?_ | refine eN ?_ | refine eL ?_ ?_ ?_ | refine eA ?_ ?_ | refine IWk.mk ⟨_, hp, rfl⟩ ?_ ?_) | refine IWk.mk ⟨_, hp, rfl⟩ ?_ ?_)
            all_goals first | with_reducible rfl | omega | exact Or.inl (by decide) | (simp; done) | rfl | skip
            all_goals (unfold tsub sat; simp only [wr_i64] at *; split <;> first | omega | (split <;> omega))
        · refine sh ?_
          refine rT ?_
          all_goals repeat' (first | exact True.intro | refine And.intro ?_ ?_ | (intro _u; clear _u) | (with_reducible first | refine eM ?_ ?_ | refine eF ?_ ?_ ?_ | refine eN ?_ | refine eL ?_ ?_ ?_ | refine eA ?_ ?_ | refine IWk.mk ⟨_, hp, rfl⟩ ?_ ?_) | refine IWk.mk ⟨_, hp, rfl⟩ ?_ ?_)
          all_goals first | with_reducible rfl | omega | exact Or.inl (by decide) | (simp; done) | rfl | skip
          all_goals (unfold tsub sat; simp only [wr_i64] at *; split <;> first | omega | (split <;> omega))
      · refine sh ?_
        refine rT ?_
        all_goals repeat' (first | exact True.intro | refine And.intro ?_ ?_ | (intro _u; clear _u) | (with_reducible first | refine eM ?_ ?_ | refine eF ?_ ?_ ?_ | refine eN ?_ | refine eL ?_ ?_ ?_ | refine eA ?_ ?_ | refine IWk.mk ⟨_, hp, rfl⟩ ?_ ?_) | refine IWk.mk ⟨_, hp, rfl⟩ ?_ ?_)
        all_goals first | with_reducible rfl | omega | exact Or.inl (by decide) | (simp; done) | rfl | skip
        all_goals (unfold tsub sat; simp only [wr_i64] at *; split <;> first | omega | (split <;> omega))
theorem fneg_c {R : Env} (h : N270 R) {a : Int} (ha : I64 a) : R.Pc 270 [.int .i64 a] (.int .i64 (sat (-a))) :=
  h.o270.enter 100 rfl fun X bb hfit hp => by
    refine sh ?_
    refine ICall.pure h.n281.o281.hb (fsub_c h.n281 (a := 0) ⟨by decide, by decide⟩ ha) rfl ?_
    refine sh ?_
    refine rT ?_
    all_goals repeat' (first | exact True.intro | refine And.intro ?_ ?_ | (intro _u; clear _u) | (with_reducible first | refine eM ?_ ?_ | refine eF ?_ ?_ ?_ | refine eN ?_ | refine eL ?_ ?_ ?_ | refine eA ?_ ?_ | refine IWk.mk ⟨_, hp, rfl⟩ ?_ ?_) | refine IWk.mk ⟨_, hp, rfl⟩ ?_ ?_)
    all_goals first | with_reducible rfl | omega | exact Or.inl (by decide) | (simp; done) | rfl | skip
    all_goals (unfold tsub; rw [Int.zero_sub])
theorem fabs_c {R : Env} (h : N255 R) {a : Int} (ha : I64 a) : R.Pc 255 [.int .i64 a] (.int .i64 (sizeI a)) :=
  h.o255.enter 100 rfl fun X bb hfit hp => by
    refine sh ?_
    refine ICall.pure h.n270.o270.hb (fneg_c h.n270 ha) rfl ?_
    rw [i64_iff] at ha
    refine sh ?_
    refine rT ?_
    all_goals repeat' (first | exact True.intro | refine And.intro ?_ ?_ | (intro _u; clear _u) | (with_reducible first | refine eM ?_ ?_ | refine eF ?_ ?_ ?_ | refine eN ?_ | refine eL ?_ ?_ ?_ | refine eA ?_ ?_ | refine IWk.mk ⟨_, hp, rfl⟩ ?_ ?_) | refine IWk.mk ⟨_, hp, rfl⟩ ?_ ?_)
    all_goals first | with_reducible rfl | omega | exact Or.inl (by decide) | (simp; done) | rfl | skip
    all_goals (unfold sizeI sat; split <;> split <;> first | omega | (split <;> omega))
theorem fof_c {R : Env} (h : N248 R) {n : Int} (hn : I64 n) : R.Pc 248 [.int .i64 n] (.int .i64 (sat (n * 4294967296))) :=
  h.o248.enter 100 rfl fun X bb hfit hp => by
    have h1 : I64 4294967296 := ⟨by decide, by decide⟩
    refine sh ?_
    refine ICall.pure h.n264.o264.hb (mul_c h.n264 hn h1) rfl ?_
    refine sh ?_
    refine ICall.pure h.n265.o265.hb (near_c h.n265 (prod_in hn h1)) rfl ?_
    refine sh ?_
    exact rT
end Go.UM

namespace Go.UM
open Go.AM
set_option maxRecDepth 4000
theorem addf_c {R : Env} (h : N263 R) {a b : Int} (ha : I64 a) (hb : I64 b) : R.Pc 263 [.int .i64 a, .int .i64 b] (.int .i64 (tadd a b)) :=
  h.o263.enter 60 rfl fun X bb hfit hp => by
    have c := fadd_c h.n267 [a, b] (by simp) (by intro x hx; simp at hx; rcases hx with rfl | rfl <;> assumption)
    rw [show sums 0 [a, b] = tadd a b by unfold sums; simp [tadd0 ha]] at c
    refine sh ?_
    refine ICall.lend rfl h.n267.o267.hb c ?_ rfl ?_
    · all_goals repeat' (first | exact True.intro | refine And.intro ?_ ?_ | (intro _u; clear _u) | (with_reducible first | refine eM ?_ ?_ | refine eF ?_ ?_ ?_ | refine eN ?_ | refine eL ?_ ?_ ?_ | refine eA ?_ ?_ | refine IWk.mk ⟨_, hp, rfl⟩ ?_ ?_) | refine IWk.mk ⟨_, hp, rfl⟩ ?_ ?_)
      all_goals first | with_reducible rfl | omega | exact Or.inl (by decide) | (simp; done) | rfl | skip
    refine sh ?_
    exact rT
theorem mulf_c {R : Env} (h : N278 R) {a b : Int} (ha : I64 a) (hb : I64 b) : R.Pc 278 [.int .i64 a, .int .i64 b] (.int .i64 (tmul a b)) :=
  h.o278.enter 60 rfl fun X bb hfit hp => by
    refine sh ?_
    refine ICall.lend rfl h.n284.o284.hb (fmul_c h.n284 ha hb) ?_ rfl ?_
    · all_goals repeat' (first | exact True.intro | refine And.intro ?_ ?_ | (intro _u; clear _u) | (with_reducible first | refine eM ?_ ?_ | refine eF ?_ ?_ ?_ | refine eN ?_ | refine eL ?_ ?_ ?_ | refine eA ?_ ?_ | refine IWk.mk ⟨_, hp, rfl⟩ ?_ ?_) | refine IWk.mk ⟨_, hp, rfl⟩ ?_ ?_)
      all_goals first | with_reducible rfl | omega | exact Or.inl (by decide) | (simp; done) | rfl | skip
    refine sh ?_
    exact rT
theorem each_add {R : Env} (h : N262 R) (hf : N263 R) {a b : T3} (ha : a.I) (hb : b.I) : R.Pc 262 [.agg (t3 a), .agg (t3 b), .clo (R.ft 263) []] (.agg (t3 (vadd a b))) :=
  h.o262.enter 60 rfl fun X bb hfit hp => by
    refine sh ?_
    refine ICall.pure hf.o263.hb (addf_c hf ha.1 hb.1) rfl ?_
    refine sh ?_
    refine ICall.pure hf.o263.hb (addf_c hf ha.2.1 hb.2.1) rfl ?_
    refine sh ?_
    refine ICall.pure hf.o263.hb (addf_c hf ha.2.2 hb.2.2) rfl ?_
    refine sh ?_
    exact rT
theorem each_mul {R : Env} (h : N262 R) (hf : N278 R) {a b : T3} (ha : a.I) (hb : b.I) : R.Pc 262 [.agg (t3 a), .agg (t3 b), .clo (R.ft 278) []] (.agg (t3 (vmul a b))) :=
  h.o262.enter 60 rfl fun X bb hfit hp => by
    refine sh ?_
    refine ICall.pure hf.o278.hb (mulf_c hf ha.1 hb.1) rfl ?_
    refine sh ?_
    refine ICall.pure hf.o278.hb (mulf_c hf ha.2.1 hb.2.1) rfl ?_
    refine sh ?_
    refine ICall.pure hf.o278.hb (mulf_c hf ha.2.2 hb.2.2) rfl ?_
    refine sh ?_
    exact rT
theorem vadd_c {R : Env} (h : N246 R) (l : List T3) (hl : l.length ≤ 1000) (hi : ∀ x ∈ l, x.I) : R.Pc 246 [.isl 3 (slc3 l)] (.agg (t3 (l.foldl vadd z3))) :=
  h.o246.enter 100 rfl fun X bb hfit hp => by
    refine sh ?_
    refine lPa 100 (fun s : Nat × T3 => s.1 ≤ l.length ∧ s.2.I ∧ (l.take s.1).foldl vadd z3 = s.2) (fun s => ⟨[(2, .loc 0 1 0 0), (3, .loc 1 1 0 0), (6, .isl 3 (slc3 l)), (7, .int .i64 l.length), (8, .int .i64 s.1)], [(1, .var (R.ty 31) (t3 s.2)), (0, .var (R.ty 31) [.int .i64 0, .int .i64 0, .int .i64 0])], 2⟩) (fun s => l.length - s.1) ((0, z3)) ?_ ?_
    · exact ⟨Nat.zero_le _, z3_in, rfl⟩
    · rintro ⟨k, s⟩ ⟨h1, h2, h3⟩
      dsimp only at h1 h2 h3 ⊢
      refine sh ?_
      refine cS (fun h4 => ?_) (fun h4 => ?_)
      · obtain ⟨x, hx⟩ : ∃ u_, l[k]? = some u_ := ⟨_, List.getElem?_eq_getElem (by first | omega | (simp <;> omega))⟩
        refine sh ?_
        refine eget_map hx ?_
        have ix := hi x (List.mem_of_getElem? hx)
        refine sh ?_
        refine ICall.pure h.n262.o262.hb (each_add h.n262 h.n263 h2 ix) rfl ?_
        refine sh ?_
        refine nXa ((k + 1, vadd s x)) ?_ ?_
        · exact ⟨by omega, vadd_in s x, by rw [take_succ_get hx, List.foldl_append, h3]; rfl⟩
        · omega
      · rw [List.take_of_length_le (by omega)] at h3
        rw [h3]
        refine sh ?_
        exact rT
theorem vtimes_c {R : Env} (h : N266 R) (l : List T3) (hl : l.length ≤ 1000) (hi : ∀ x ∈ l, x.I) : R.Pc 266 [.isl 3 (slc3 l)] (.agg (t3 (l.foldl vmul one3))) :=
  h.o266.enter 100 rfl fun X bb hfit hp => by
    refine sh ?_
    refine lPa 100 (fun s : Nat × T3 => s.1 ≤ l.length ∧ s.2.I ∧ (l.take s.1).foldl vmul one3 = s.2) (fun s => ⟨[(2, .loc 0 1 0 0), (3, .loc 1 1 0 0), (7, .isl 3 (slc3 l)), (8, .int .i64 l.length), (9, .int .i64 s.1)], [(1, .var (R.ty 31) (t3 s.2)), (0, .var (R.ty 31) [.int .i64 0, .int .i64 0, .int .i64 0])], 2⟩) (fun s => l.length - s.1) ((0, one3)) ?_ ?_
    · exact ⟨Nat.zero_le _, one3_in, rfl⟩
    · rintro ⟨k, s⟩ ⟨h1, h2, h3⟩
      dsimp only at h1 h2 h3 ⊢
      refine sh ?_
      refine cS (fun h4 => ?_) (fun h4 => ?_)
      · obtain ⟨x, hx⟩ : ∃ u_, l[k]? = some u_ := ⟨_, List.getElem?_eq_getElem (by first | omega | (simp <;> omega))⟩
        refine sh ?_
        refine eget_map hx ?_
        have ix := hi x (List.mem_of_getElem? hx)
        refine sh ?_
        refine ICall.pure h.n262.o262.hb (each_mul h.n262 h.n278 h2 ix) rfl ?_
        refine sh ?_
        refine nXa ((k + 1, vmul s x)) ?_ ?_
        · exact ⟨by omega, vmul_in s x, by rw [take_succ_get hx, List.foldl_append, h3]; rfl⟩
        · omega
      · rw [List.take_of_length_le (by omega)] at h3
        rw [h3]
        refine sh ?_
        exact rT
theorem dot_c {R : Env} (h : N252 R) {a b : T3} (ha : a.I) (hb : b.I) : R.Pc 252 [.agg (t3 a), .agg (t3 b)] (.int .i64 (dot a b)) :=
  h.o252.enter 100 rfl fun X bb hfit hp => by
    have c1 := vtimes_c h.n266 [a, b] (by simp) (by intro x hx; simp at hx; rcases hx with rfl | rfl <;> assumption)
    rw [show [a, b].foldl vmul one3 = vmul a b by simp [vmul1 ha]] at c1
    refine sh ?_
    refine ICall.lend rfl h.n266.o266.hb c1 ?_ rfl ?_
    · all_goals repeat' (first | exact True.intro | refine And.intro ?_ ?_ | (intro _u; clear _u) | (with_reducible first | refine eM ?_ ?_ | refine eF ?_ ?_ ?_ | refine eN ?_ | refine eL ?_ ?_ ?_ | refine eA ?_ ?_ | refine IWk.mk ⟨_, hp, rfl⟩ ?_ ?_) | refine IWk.mk ⟨_, hp, rfl⟩ ?_ ?_)
      all_goals first | with_reducible rfl | omega | exact Or.inl (by decide) | (simp; done) | rfl | skip
    have i1 := vmul_in a b
    generalize hv : vmul a b = v at *
    have c2 := fadd_c h.n267 [v.a, v.b, v.c] (by simp) (by intro x hx; simp at hx; rcases hx with rfl | rfl | rfl; exact i1.1; exact i1.2.1; exact i1.2.2)
    rw [show sums 0 [v.a, v.b, v.c] = dot a b by unfold sums dot; simp only [List.foldl_cons, List.foldl_nil]; rw [tadd0 i1.1, ← hv]; rfl] at c2
    refine sh ?_
    refine ICall.lend rfl h.n267.o267.hb c2 ?_ rfl ?_
    · all_goals repeat' (first | exact True.intro | refine And.intro ?_ ?_ | (intro _u; clear _u) | (with_reducible first | refine eM ?_ ?_ | refine eF ?_ ?_ ?_ | refine eN ?_ | refine eL ?_ ?_ ?_ | refine eA ?_ ?_ | refine IWk.mk ⟨_, hp, rfl⟩ ?_ ?_) | refine IWk.mk ⟨_, hp, rfl⟩ ?_ ?_)
      all_goals first | with_reducible rfl | omega | exact Or.inl (by decide) | (simp; done) | rfl | skip
    refine sh ?_
    exact rT
theorem vofp_c {R : Env} (h : N249 R) {p : T3} (hp' : p.I) : R.Pc 249 [.agg (t3 p)] (.agg (t3 (vof p))) :=
  h.o249.enter 100 rfl fun X bb hfit hp => by
    refine sh ?_
    refine ICall.pure h.n248.o248.hb (fof_c h.n248 hp'.1) rfl ?_
    refine sh ?_
    refine ICall.pure h.n248.o248.hb (fof_c h.n248 hp'.2.1) rfl ?_
    refine sh ?_
    refine ICall.pure h.n248.o248.hb (fof_c h.n248 hp'.2.2) rfl ?_
    refine sh ?_
    exact rT
theorem vmost_c {R : Env} (h : N256 R) {p : T3} (hp' : p.I) : R.Pc 256 [.agg (t3 p)] (.int .i64 (mostT p)) :=
  h.o256.enter 100 rfl fun X bb hfit hp => by
    refine sh ?_
    refine ICall.pure h.n255.o255.hb (fabs_c h.n255 hp'.1) rfl ?_
    refine sh ?_
    refine ICall.pure h.n255.o255.hb (fabs_c h.n255 hp'.2.1) rfl ?_
    refine sh ?_
    refine ICall.pure h.n255.o255.hb (fabs_c h.n255 hp'.2.2) rfl ?_
    refine sh ?_
    exact rT
theorem rsize_c {R : Env} (h : N279 R) {x : Int} (hx : I64 x) : R.Pc 279 [.int .i64 x] (.int .u64 (absI x)) :=
  h.o279.enter 100 rfl fun X bb hfit hp => by
    rw [i64_iff] at hx
    unfold absI
    refine sh ?_
    refine cS (fun h1 => ?_) (fun h1 => ?_)
    · refine sh ?_
      refine rT ?_
      all_goals repeat' (first | exact True.intro | refine And.intro ?_ ?_ | (intro _u; clear _u) | (with_reducible first | refine eM ?_ ?_ | refine eF ?_ ?_ ?_ | refine eN ?_ | refine eL ?_ ?_ ?_ | refine eA ?_ ?_ | refine IWk.mk ⟨_, hp, rfl⟩ ?_ ?_) | refine IWk.mk ⟨_, hp, rfl⟩ ?_ ?_)
      all_goals first | with_reducible rfl | omega | exact Or.inl (by decide) | (simp; done) | rfl | skip
      all_goals omega
    · refine sh ?_
      refine rT ?_
      all_goals repeat' (first | exact True.intro | refine And.intro ?_ ?_ | (intro _u; clear _u) | (with_reducible first | refine eM ?_ ?_ | refine eF ?_ ?_ ?_ | refine eN ?_ | refine eL ?_ ?_ ?_ | refine eA ?_ ?_ | refine IWk.mk ⟨_, hp, rfl⟩ ?_ ?_) | refine IWk.mk ⟨_, hp, rfl⟩ ?_ ?_)
      all_goals first | with_reducible rfl | omega | exact Or.inl (by decide) | (simp; done) | rfl | skip
      all_goals omega
def rnear (s : Int) (below big : Bool) : Int := if below = true then (if big = true ∨ 9223372036854775808 ≤ s then -9223372036854775808 else -s) else (if big = true ∨ 9223372036854775808 ≤ s then 9223372036854775807 else s)
theorem rnear_c2 {R : Env} (h : N280 R) {s : Int} (hs : U64 s) (below big : Bool) : R.Pc 280 [.int .u64 s, .bool below, .bool big] (.int .i64 (rnear s below big)) :=
  h.o280.enter 100 rfl fun X bb hfit hp => by
    rw [u64_iff] at hs
    unfold rnear
    cases below with
    | true =>
      cases big with
      | true =>
        refine sh ?_
        exact rT
      | false =>
        refine sh ?_
        refine cS (fun h1 => ?_) (fun h1 => ?_)
        · refine sh ?_
          refine rT ?_
          all_goals repeat' (first | exact True.intro | refine And.intro ?_ ?_ | (intro _u; clear _u) | (with_reducible first | refine eM ?_ ?_ | refine eF ?_ ?_ ?_ | refine eN ?_ | refine eL ?_ ?_ ?_ | refine eA ?_ ?_ | refine IWk.mk ⟨_, hp, rfl⟩ ?_ ?_) | refine IWk.mk ⟨_, hp, rfl⟩ ?_ ?_)
          all_goals first | with_reducible rfl | omega | exact Or.inl (by decide) | (simp; done) | rfl | skip
          all_goals (simp; omega)
        · refine sh ?_
          refine rT ?_
          all_goals repeat' (first | exact True.intro | refine And.intro ?_ ?_ | (intro _u; clear _u) | (with_reducible first | refine eM ?_ ?_ | refine eF ?_ ?_ ?_ | refine eN ?_ | refine eL ?_ ?_ ?_ | refine eA ?_ ?_ | refine IWk.mk ⟨_, hp, rfl⟩ ?_ ?_) | refine IWk.mk ⟨_, hp, rfl⟩ ?_ ?_)
          all_goals first | with_reducible rfl | omega | exact Or.inl (by decide) | (simp; done) | rfl | skip
          all_goals (simp; omega)
    | false =>
      cases big with
      | true =>
        refine sh ?_
        exact rT
      | false =>
        refine sh ?_
        refine cS (fun h1 => ?_) (fun h1 => ?_)
        · refine sh ?_
          refine rT ?_
          all_goals repeat' (first | exact True.intro | refine And.intro ?_ ?_ | (intro _u; clear _u) | (with_reducible first | refine eM ?_ ?_ | refine eF ?_ ?_ ?_ | refine eN ?_ | refine eL ?_ ?_ ?_ | refine eA ?_ ?_ | refine IWk.mk ⟨_, hp, rfl⟩ ?_ ?_) | refine IWk.mk ⟨_, hp, rfl⟩ ?_ ?_)
          all_goals first | with_reducible rfl | omega | exact Or.inl (by decide) | (simp; done) | rfl | skip
          all_goals (simp; omega)
        · refine sh ?_
          refine rT ?_
          all_goals repeat' (first | exact True.intro | refine And.intro ?_ ?_ | (intro _u; clear _u) | (with_reducible first | refine eM ?_ ?_ | refine eF ?_ ?_ ?_ | refine eN ?_ | refine eL ?_ ?_ ?_ | refine eA ?_ ?_ | refine IWk.mk ⟨_, hp, rfl⟩ ?_ ?_) | refine IWk.mk ⟨_, hp, rfl⟩ ?_ ?_)
          all_goals first | with_reducible rfl | omega | exact Or.inl (by decide) | (simp; done) | rfl | skip
          all_goals (simp; omega)
theorem same_sign {a b : Int} (h : (decide (a < 0) == decide (b < 0)) = true) : (a < 0 ∧ b < 0) ∨ (0 ≤ a ∧ 0 ≤ b) := by
  by_cases ha : a < 0 <;> by_cases hb : b < 0
  · exact .inl ⟨ha, hb⟩
  · simp [ha, hb] at h
  · simp [ha, hb] at h
  · exact .inr ⟨by omega, by omega⟩
theorem rtwo_e {a b : Int} (ha : I64 a) (hb : I64 b) (h : (a < 0 ∧ b < 0) ∨ (0 ≤ a ∧ 0 ≤ b)) : rnear (wr .u64 (absI a + absI b)) (decide (a < 0)) (decide (wr .u64 (absI a + absI b) < absI a)) = sat (a + b) := by
  rw [i64_iff] at ha hb
  rcases h with ⟨h1, h2⟩ | ⟨h1, h2⟩
  · have e1 : absI a = -a := if_pos h1
    have e2 : absI b = -b := if_pos h2
    rw [e1, e2, wr_u64, decide_eq_true h1]
    unfold rnear sat
    simp only [if_true, decide_eq_true_eq]
    repeat' split
    all_goals omega
  · have e1 : absI a = a := if_neg (show ¬ a < 0 by omega)
    have e2 : absI b = b := if_neg (show ¬ b < 0 by omega)
    rw [e1, e2, wr_u64, decide_eq_false (show ¬ a < 0 by omega)]
    unfold rnear sat
    simp only [Bool.false_eq_true, if_false, decide_eq_true_eq]
    repeat' split
    all_goals omega
theorem rtwo_c {R : Env} (h : N269 R) {a b : Int} (ha : I64 a) (hb : I64 b) : R.Pc 269 [.int .i64 a, .int .i64 b] (.int .i64 (tadd a b)) :=
  h.o269.enter 100 rfl fun X bb hfit hp => by
    refine sh ?_
    refine ICall.pure h.n279.o279.hb (rsize_c h.n279 ha) rfl ?_
    refine sh ?_
    refine ICall.pure h.n279.o279.hb (rsize_c h.n279 hb) rfl ?_
    have u1 := absI_in ha
    have u2 := absI_in hb
    refine sh ?_
    refine cS (fun h1 => ?_) (fun h1 => ?_)
    · have e := rtwo_e ha hb (same_sign h1)
      refine sh ?_
      refine iwr_any ?_
      refine sh ?_
      refine iwr_any ?_
      refine sh ?_
      refine ICall.pure h.n280.o280.hb (rnear_c2 h.n280 (wr_inI .u64 _) _ _) rfl ?_
      rw [e]
      refine sh ?_
      exact rT
    · rw [i64_iff] at ha hb
      have h2 : -9223372036854775808 ≤ a + b ∧ a + b ≤ 9223372036854775807 := by
        by_cases q1 : a < 0 <;> by_cases q2 : b < 0
        · simp [q1, q2] at h1
        · omega
        · omega
        · simp [q1, q2] at h1
      refine sh ?_
      refine rT ?_
      all_goals repeat' (first | exact True.intro | refine And.intro ?_ ?_ | (intro _u; clear _u) | (with_reducible first | refine eM ?_ ?_ | refine eF ?_ ?_ ?_ | refine eN ?_ | refine eL ?_ ?_ ?_ | refine eA ?_ ?_ | refine IWk.mk ⟨_, hp, rfl⟩ ?_ ?_) | refine IWk.mk ⟨_, hp, rfl⟩ ?_ ?_)
      all_goals first | with_reducible rfl | omega | exact Or.inl (by decide) | (simp; done) | rfl | skip
      all_goals exact (sat_id (i64_iff.2 h2)).symm
theorem rsub0_c {R : Env} (h : N282 R) {b : Int} (hb : I64 b) : R.Pc 282 [.int .i64 0, .int .i64 b] (.int .i64 (sat (-b))) :=
  h.o282.enter 100 rfl fun X bb hfit hp => by
    have h0 : I64 0 := ⟨by decide, by decide⟩
    refine sh ?_
    refine ICall.pure h.n279.o279.hb (rsize_c h.n279 h0) rfl ?_
    refine sh ?_
    refine ICall.pure h.n279.o279.hb (rsize_c h.n279 hb) rfl ?_
    have u2 := absI_in hb
    rw [i64_iff] at hb
    refine sh ?_
    refine cS (fun h1 => ?_) (fun h1 => ?_)
    · have hneg : b < 0 := by
        by_cases q : b < 0
        · exact q
        · simp [q] at h1
      have e : rnear (wr .u64 (absI 0 + absI b)) (decide ((0 : Int) < 0)) (decide (wr .u64 (absI 0 + absI b) < absI 0)) = sat (-b) := by
        have e1 : absI 0 = 0 := rfl
        have e2 : absI b = -b := if_pos hneg
        rw [e1, e2, wr_u64, decide_eq_false (show ¬ (0 : Int) < 0 by omega)]
        unfold rnear sat
        simp only [Bool.false_eq_true, if_false, decide_eq_true_eq]
        repeat' split
        all_goals omega
      refine sh ?_
      refine iwr_any ?_
      refine sh ?_
      refine iwr_any ?_
      refine sh ?_
      refine ICall.pure h.n280.o280.hb (rnear_c2 h.n280 (wr_inI .u64 _) _ _) rfl ?_
      rw [e]
      refine sh ?_
      exact rT
    · have hpos : ¬ b < 0 := by
        intro q
        simp [q] at h1
      refine sh ?_
      refine rT ?_
      all_goals repeat' (first | exact True.intro | refine And.intro ?_ ?_ | (intro _u; clear _u) | (with_reducible first | refine eM ?_ ?_ | refine eF ?_ ?_ ?_ | refine eN ?_ | refine eL ?_ ?_ ?_ | refine eA ?_ ?_ | refine IWk.mk ⟨_, hp, rfl⟩ ?_ ?_) | refine IWk.mk ⟨_, hp, rfl⟩ ?_ ?_)
      all_goals first | with_reducible rfl | omega | exact Or.inl (by decide) | (simp; done) | rfl | skip
      all_goals (unfold sat; rw [if_neg (by omega), if_neg (by omega)]; omega)
theorem rtimes_e {a b : Int} (ha : I64 a) (hb : I64 b) {s : Int} {big : Bool} (below : Bool) (hbl : a * b = if below = true then -(absI a * absI b) else absI a * absI b)
    (hs : s = (absI a * absI b / 4294967296 + (if below = true ∧ 0 < absI a * absI b % 4294967296 then 1 else 0)) % 18446744073709551616)
    (hbig : big = decide (18446744073709551616 ≤ absI a * absI b / 4294967296 + (if below = true ∧ 0 < absI a * absI b % 4294967296 then 1 else 0))) : rnear s below big = tmul a b := by
  have hP := abs_prod ha hb
  unfold tmul
  rw [hbl]
  generalize absI a * absI b = P at *
  subst hs hbig
  unfold rnear sat
  cases below with
  | true =>
    simp only [decide_eq_true_eq, true_and, if_true]
    repeat' split
    all_goals omega
  | false =>
    simp only [decide_eq_true_eq, Bool.false_eq_true, false_and, if_false]
    repeat' split
    all_goals omega
theorem rtimes_c {R : Env} (h : N268 R) {a b : Int} (ha : I64 a) (hb : I64 b) : R.Pc 268 [.int .i64 a, .int .i64 b] (.int .i64 (tmul a b)) :=
  h.o268.enter 100 rfl fun X bb hfit hp => by
    refine sh ?_
    refine ICall.pure h.n279.o279.hb (rsize_c h.n279 ha) rfl ?_
    refine sh ?_
    refine ICall.pure h.n279.o279.hb (rsize_c h.n279 hb) rfl ?_
    refine sh ?_
    refine ICall.pure h.n276.o276.hb (mul64_c h.n276 (abs_u64 ha) (abs_u64 hb)) rfl ?_
    have hP := abs_prod ha hb
    have hbl := mul_abs a b
    have hE := fun s big => rtimes_e (s := s) (big := big) ha hb (decide (a < 0) != decide (b < 0)) hbl
    have e1 : bit2 .or .u64 (shlI .u64 (whi (absI a * absI b)) 32) (shrI .u64 (wlo (absI a * absI b)) 32) = absI a * absI b / 4294967296 % 18446744073709551616 := by
      generalize absI a * absI b = P at *
      have e : shlI .u64 (whi P) 32 = (whi P % 4294967296) * 4294967296 := by rw [shl32]; omega
      have h2 := wlo_in P
      rw [e, shr32 .u64 (by decide), or_shift (by omega) (by omega)]
      unfold whi wlo; omega
    have e2 : bit2 .and .u64 (wlo (absI a * absI b)) 4294967295 = absI a * absI b % 4294967296 := by
      rw [and_low (wlo_in _)]; unfold wlo; omega
    generalize hbe : (decide (a < 0) != decide (b < 0)) = below at *
    cases below with
    | false =>
      refine sh ?_
      rw [hbe]
      refine acnd_f rfl ?_
      refine sh ?_
      rw [e1]
      clear e1
      refine ICall.pure h.n280.o280.hb (rnear_c2 h.n280 ⟨by omega, by omega⟩ _ _) rfl ?_
      rw [hE _ _ (by simp) (by simp only [Bool.false_eq_true, false_and, if_false]; congr 1; unfold whi; apply propext; constructor <;> intro <;> omega)]
      refine sh ?_
      exact rT
    | true =>
      refine sh ?_
      rw [hbe]
      refine acnd_t rfl ?_
      refine sh ?_
      rw [e2]
      refine cS (fun g => ?_) (fun g => ?_)
      · refine sh ?_
        rw [e1]
        clear e1 e2
        refine iwr_any ?_
        refine sh ?_
        refine cS (fun g2 => ?_) (fun g2 => ?_)
        · refine sh ?_
          refine ICall.pure h.n280.o280.hb (rnear_c2 h.n280 (wr_inI .u64 _) _ _) rfl ?_
          rw [hE _ _ (by simp only [true_and]; rw [if_pos g, wr_u64]; omega) (by simp only [true_and]; rw [if_pos g]; symm; rw [decide_eq_true_eq]; unfold whi at g2; omega)]
          refine sh ?_
          exact rT
        · refine sh ?_
          refine ICall.pure h.n280.o280.hb (rnear_c2 h.n280 (wr_inI .u64 _) _ _) rfl ?_
          rw [hE _ _ (by simp only [true_and]; rw [if_pos g, wr_u64]; omega) (by simp only [true_and]; rw [if_pos g, wr_u64, Bool.eq_iff_iff]; simp only [beq_iff_eq, decide_eq_true_eq]; unfold whi at g2; omega)]
          refine sh ?_
          exact rT
      · refine sh ?_
        rw [e1]
        clear e1 e2
        refine ICall.pure h.n280.o280.hb (rnear_c2 h.n280 ⟨by omega, by omega⟩ _ _) rfl ?_
        rw [hE _ _ (by simp only [true_and]; rw [if_neg (by omega)]; simp) (by simp only [true_and]; rw [if_neg (by omega)]; congr 1; unfold whi; apply propext; constructor <;> intro <;> omega)]
        refine sh ?_
        exact rT
theorem rdot_c {R : Env} (h : N253 R) {a b : T3} (ha : a.I) (hb : b.I) : R.Pc 253 [.agg (t3 a), .agg (t3 b)] (.int .i64 (dot a b)) :=
  h.o253.enter 100 rfl fun X bb hfit hp => by
    refine sh ?_
    refine ICall.pure h.n268.o268.hb (rtimes_c h.n268 ha.1 hb.1) rfl ?_
    refine sh ?_
    refine ICall.pure h.n269.o269.hb (rtwo_c h.n269 (a := 0) ⟨by decide, by decide⟩ (tmul_in a.a b.a)) rfl ?_
    rw [tadd0 (tmul_in a.a b.a)]
    refine sh ?_
    refine ICall.pure h.n268.o268.hb (rtimes_c h.n268 ha.2.1 hb.2.1) rfl ?_
    refine sh ?_
    refine ICall.pure h.n269.o269.hb (rtwo_c h.n269 (tmul_in a.a b.a) (tmul_in a.b b.b)) rfl ?_
    refine sh ?_
    refine ICall.pure h.n268.o268.hb (rtimes_c h.n268 ha.2.2 hb.2.2) rfl ?_
    refine sh ?_
    refine ICall.pure h.n269.o269.hb (rtwo_c h.n269 (tadd_in _ _) (tmul_in a.c b.c)) rfl ?_
    refine sh ?_
    exact rT
theorem rvtwo_c {R : Env} (h : N254 R) {a b : T3} (ha : a.I) (hb : b.I) : R.Pc 254 [.agg (t3 a), .agg (t3 b)] (.agg (t3 (vadd a b))) :=
  h.o254.enter 100 rfl fun X bb hfit hp => by
    refine sh ?_
    refine ICall.pure h.n269.o269.hb (rtwo_c h.n269 ha.1 hb.1) rfl ?_
    refine sh ?_
    refine ICall.pure h.n269.o269.hb (rtwo_c h.n269 ha.2.1 hb.2.1) rfl ?_
    refine sh ?_
    refine ICall.pure h.n269.o269.hb (rtwo_c h.n269 ha.2.2 hb.2.2) rfl ?_
    refine sh ?_
    exact rT
theorem rsizeI_c {R : Env} (h : N271 R) {x : Int} (hx : I64 x) : R.Pc 271 [.int .i64 x] (.int .i64 (sizeI x)) :=
  h.o271.enter 100 rfl fun X bb hfit hp => by
    refine sh ?_
    refine cS (fun h1 => ?_) (fun h1 => ?_)
    · refine sh ?_
      refine ICall.pure h.n282.o282.hb (rsub0_c h.n282 hx) rfl ?_
      refine sh ?_
      refine rT ?_
      all_goals repeat' (first | exact True.intro | refine And.intro ?_ ?_ | (intro _u; clear _u) | (with_reducible first | refine eM ?_ ?_ | refine eF ?_ ?_ ?_ | refine eN ?_ | refine eL ?_ ?_ ?_ | refine eA ?_ ?_ | refine IWk.mk ⟨_, hp, rfl⟩ ?_ ?_) | refine IWk.mk ⟨_, hp, rfl⟩ ?_ ?_)
      all_goals first | with_reducible rfl | omega | exact Or.inl (by decide) | (simp; done) | rfl | skip
      all_goals (unfold sizeI; rw [if_pos h1])
    · refine sh ?_
      refine rT ?_
      all_goals repeat' (first | exact True.intro | refine And.intro ?_ ?_ | (intro _u; clear _u) | (with_reducible first | refine eM ?_ ?_ | refine eF ?_ ?_ ?_ | refine eN ?_ | refine eL ?_ ?_ ?_ | refine eA ?_ ?_ | refine IWk.mk ⟨_, hp, rfl⟩ ?_ ?_) | refine IWk.mk ⟨_, hp, rfl⟩ ?_ ?_)
      all_goals first | with_reducible rfl | omega | exact Or.inl (by decide) | (simp; done) | rfl | skip
      all_goals (unfold sizeI; rw [if_neg (by omega)])
theorem rmost_c {R : Env} (h : N257 R) {p : T3} (hp' : p.I) : R.Pc 257 [.agg (t3 p)] (.int .i64 (mostT p)) :=
  h.o257.enter 100 rfl fun X bb hfit hp => by
    unfold mostT
    refine sh ?_
    refine ICall.pure h.n271.o271.hb (rsizeI_c h.n271 hp'.1) rfl ?_
    refine sh ?_
    refine ICall.pure h.n271.o271.hb (rsizeI_c h.n271 hp'.2.1) rfl ?_
    refine sh ?_
    refine cS (fun h1 => ?_) (fun h1 => ?_)
    · refine sh ?_
      refine ICall.pure h.n271.o271.hb (rsizeI_c h.n271 hp'.2.1) rfl ?_
      refine sh ?_
      refine ICall.pure h.n271.o271.hb (rsizeI_c h.n271 hp'.2.2) rfl ?_
      refine sh ?_
      refine cS (fun h2 => ?_) (fun h2 => ?_)
      · refine sh ?_
        refine ICall.pure h.n271.o271.hb (rsizeI_c h.n271 hp'.2.2) rfl ?_
        refine sh ?_
        refine rT ?_
        all_goals repeat' (first | exact True.intro | refine And.intro ?_ ?_ | (intro _u; clear _u) | (with_reducible first | refine eM ?_ ?_ | refine eF ?_ ?_ ?_ | refine eN ?_ | refine eL ?_ ?_ ?_ | refine eA ?_ ?_ | refine IWk.mk ⟨_, hp, rfl⟩ ?_ ?_) | refine IWk.mk ⟨_, hp, rfl⟩ ?_ ?_)
        all_goals first | with_reducible rfl | omega | exact Or.inl (by decide) | (simp; done) | rfl | skip
        all_goals omega
      · refine sh ?_
        refine rT ?_
        all_goals repeat' (first | exact True.intro | refine And.intro ?_ ?_ | (intro _u; clear _u) | (with_reducible first | refine eM ?_ ?_ | refine eF ?_ ?_ ?_ | refine eN ?_ | refine eL ?_ ?_ ?_ | refine eA ?_ ?_ | refine IWk.mk ⟨_, hp, rfl⟩ ?_ ?_) | refine IWk.mk ⟨_, hp, rfl⟩ ?_ ?_)
        all_goals first | with_reducible rfl | omega | exact Or.inl (by decide) | (simp; done) | rfl | skip
        all_goals omega
    · refine sh ?_
      refine ICall.pure h.n271.o271.hb (rsizeI_c h.n271 hp'.2.2) rfl ?_
      refine sh ?_
      refine cS (fun h2 => ?_) (fun h2 => ?_)
      · refine sh ?_
        refine ICall.pure h.n271.o271.hb (rsizeI_c h.n271 hp'.2.2) rfl ?_
        refine sh ?_
        refine rT ?_
        all_goals repeat' (first | exact True.intro | refine And.intro ?_ ?_ | (intro _u; clear _u) | (with_reducible first | refine eM ?_ ?_ | refine eF ?_ ?_ ?_ | refine eN ?_ | refine eL ?_ ?_ ?_ | refine eA ?_ ?_ | refine IWk.mk ⟨_, hp, rfl⟩ ?_ ?_) | refine IWk.mk ⟨_, hp, rfl⟩ ?_ ?_)
        all_goals first | with_reducible rfl | omega | exact Or.inl (by decide) | (simp; done) | rfl | skip
        all_goals omega
      · refine sh ?_
        refine rT ?_
        all_goals repeat' (first | exact True.intro | refine And.intro ?_ ?_ | (intro _u; clear _u) | (with_reducible first | refine eM ?_ ?_ | refine eF ?_ ?_ ?_ | refine eN ?_ | refine eL ?_ ?_ ?_ | refine eA ?_ ?_ | refine IWk.mk ⟨_, hp, rfl⟩ ?_ ?_) | refine IWk.mk ⟨_, hp, rfl⟩ ?_ ?_)
        all_goals first | with_reducible rfl | omega | exact Or.inl (by decide) | (simp; done) | rfl | skip
        all_goals omega
end Go.UM

namespace Go.UM
open Go.AM
set_option maxRecDepth 4000
@[simp] theorem nm_t3 (x : T3) : AV.namesL (t3 x) = [] := by simp [t3]
@[simp] theorem fl_t3 (x : T3) : AV.flatL (t3 x) = true := by simp [t3]
@[simp] theorem nm_af (a : Af) : AV.namesL a.row = [] := by simp [Af.row]
@[simp] theorem fl_af (a : Af) : AV.flatL a.row = true := by simp [Af.row]
theorem same4_c {R : Env} (h : N221 R) : R.Pc 221 [] (.agg same4.row) :=
  h.o221.enter 60 rfl fun X bb hfit hp => by
    refine sh ?_
    exact rT
theorem rsame4_c {R : Env} (h : N222 R) : R.Pc 222 [] (.agg same4.row) :=
  h.o222.enter 60 rfl fun X bb hfit hp => by
    refine sh ?_
    exact rT
theorem move4_c {R : Env} (h : N223 R) (v : T3) : R.Pc 223 [.agg (t3 v)] (.agg (move4 v).row) :=
  h.o223.enter 60 rfl fun X bb hfit hp => by
    refine sh ?_
    refine ICall.pure h.n221.o221.hb (same4_c h.n221) rfl ?_
    refine sh ?_
    exact rT
theorem row4_c {R : Env} (h : N251 R) (a : Af) (i : Nat) (hi : i < 3) : R.Pc 251 [.agg a.mrow, .int .i64 i] (.agg (t3 (a.rw i))) := by
  match i, hi with
  | 0, _ =>
    exact h.o251.enter 60 rfl fun X bb hfit hp => by
      refine sh ?_
      exact rT
  | 1, _ =>
    exact h.o251.enter 60 rfl fun X bb hfit hp => by
      refine sh ?_
      exact rT
  | 2, _ =>
    exact h.o251.enter 60 rfl fun X bb hfit hp => by
      refine sh ?_
      exact rT
theorem col4_c {R : Env} (h : N258 R) (a : Af) (i : Nat) (hi : i < 3) : R.Pc 258 [.agg a.mrow, .int .i64 i] (.agg (t3 (a.cl i))) := by
  match i, hi with
  | 0, _ =>
    exact h.o258.enter 60 rfl fun X bb hfit hp => by
      refine sh ?_
      exact rT
  | 1, _ =>
    exact h.o258.enter 60 rfl fun X bb hfit hp => by
      refine sh ?_
      exact rT
  | 2, _ =>
    exact h.o258.enter 60 rfl fun X bb hfit hp => by
      refine sh ?_
      exact rT
theorem turn4_c {R : Env} (h : N231 R) {a : Af} {v : T3} (ha : a.I) (hv : v.I) : R.Pc 231 [.agg a.row, .agg (t3 v)] (.agg (t3 (turn4 a v))) :=
  h.o231.enter 60 rfl fun X bb hfit hp => by
    refine sh ?_
    refine ICall.pure h.n251.o251.hb (row4_c h.n251 a 0 (by omega)) rfl ?_
    refine sh ?_
    refine ICall.pure h.n252.o252.hb (dot_c h.n252 (ha.rw 0) hv) rfl ?_
    refine sh ?_
    refine ICall.pure h.n251.o251.hb (row4_c h.n251 a 1 (by omega)) rfl ?_
    refine sh ?_
    refine ICall.pure h.n252.o252.hb (dot_c h.n252 (ha.rw 1) hv) rfl ?_
    refine sh ?_
    refine ICall.pure h.n251.o251.hb (row4_c h.n251 a 2 (by omega)) rfl ?_
    refine sh ?_
    refine ICall.pure h.n252.o252.hb (dot_c h.n252 (ha.rw 2) hv) rfl ?_
    refine sh ?_
    exact rT
theorem apply4_c {R : Env} (h : N233 R) {a : Af} {v : T3} (ha : a.I) (hv : v.I) : R.Pc 233 [.agg a.row, .agg (t3 v)] (.agg (t3 (apply4 a v))) :=
  h.o233.enter 60 rfl fun X bb hfit hp => by
    refine sh ?_
    refine ICall.pure h.n231.o231.hb (turn4_c h.n231 ha hv) rfl ?_
    have i1 := turn_in a v
    have c1 := vadd_c h.n246 [turn4 a v, a.t] (by simp) (by intro x hx; simp at hx; rcases hx with rfl | rfl; exact i1; exact ha.t)
    rw [show [turn4 a v, a.t].foldl vadd z3 = apply4 a v by simp [vadd0 i1, apply4]] at c1
    refine sh ?_
    refine cM true [] (c1.mc h.n246.o246.hb) ?_
    repeat ((intro _u; clear _u); first | refine eK ?_ | refine eP ?_)
    refine sh ?_
    exact rT
theorem rturn4_c {R : Env} (h : N232 R) {a : Af} {v : T3} (ha : a.I) (hv : v.I) : R.Pc 232 [.agg a.row, .agg (t3 v)] (.agg (t3 (turn4 a v))) :=
  h.o232.enter 60 rfl fun X bb hfit hp => by
    refine sh ?_
    refine ILoop.one 100 ?_
    refine sh ?_
    refine acnd_t (by decide) ?_
    refine sh ?_
    refine ICall.pure h.n253.o253.hb (rdot_c h.n253 (ha.rw 0) hv) rfl ?_
    refine sh ?_
    refine ILoop.one 100 ?_
    refine sh ?_
    refine acnd_t (by decide) ?_
    refine sh ?_
    refine ICall.pure h.n253.o253.hb (rdot_c h.n253 (ha.rw 1) hv) rfl ?_
    refine sh ?_
    refine ILoop.one 100 ?_
    refine sh ?_
    refine acnd_t (by decide) ?_
    refine sh ?_
    refine ICall.pure h.n253.o253.hb (rdot_c h.n253 (ha.rw 2) hv) rfl ?_
    refine sh ?_
    refine ILoop.one 100 ?_
    refine sh ?_
    refine acnd_f (by decide) ?_
    refine sh ?_
    refine aelt_lit rfl ?_
    refine sh ?_
    refine aelt_lit rfl ?_
    refine sh ?_
    refine aelt_lit rfl ?_
    refine sh ?_
    exact rT
theorem rapply4_c {R : Env} (h : N234 R) {a : Af} {v : T3} (ha : a.I) (hv : v.I) : R.Pc 234 [.agg a.row, .agg (t3 v)] (.agg (t3 (apply4 a v))) :=
  h.o234.enter 60 rfl fun X bb hfit hp => by
    refine sh ?_
    refine ICall.pure h.n232.o232.hb (rturn4_c h.n232 ha hv) rfl ?_
    refine sh ?_
    refine ICall.pure h.n254.o254.hb (rvtwo_c h.n254 (turn_in a v) ha.t) rfl ?_
    refine sh ?_
    exact rT
theorem off40_e {x : Int} (hx : I64 x) : off40 x = decide (1099511627776 < sizeI x) := by
  rw [i64_iff] at hx
  unfold off40 sizeI sat
  rw [Bool.eq_iff_iff]
  simp only [Bool.or_eq_true, decide_eq_true_eq]
  repeat' split
  all_goals omega
theorem chk4_yes {a : Af} {x : Int} (hx : x ∈ ms a) (h : off40 x = true) : chk4 a = 2 := by
  unfold chk4
  rw [if_pos (List.any_eq_true.2 ⟨x, hx, h⟩)]
theorem check4_c {R : Env} (h : N235 R) {a : Af} (ha : a.I) : R.Pc 235 [.agg a.row] (.int .i64 (chk4 a)) :=
  h.o235.enter 100 rfl fun X bb hfit hp => by
    refine sh ?_
    refine ILoop.one 100 ?_
    refine sh ?_
    refine acnd_t (by decide) ?_
    refine sh ?_
    refine ICall.pure h.n255.o255.hb (fabs_c h.n255 ha.m0) rfl ?_
    refine sh ?_
    refine cS (fun o0 => ?_) (fun o0 => ?_)
    · rw [chk4_yes (x := a.m0) (by simp [ms]) (by rw [off40_e ha.m0]; simpa using o0)]
      refine sh ?_
      exact rT
    · skip
      refine sh ?_
      refine ILoop.one 100 ?_
      refine sh ?_
      refine acnd_t (by decide) ?_
      refine sh ?_
      refine ICall.pure h.n255.o255.hb (fabs_c h.n255 ha.m1) rfl ?_
      refine sh ?_
      refine cS (fun o1 => ?_) (fun o1 => ?_)
      · rw [chk4_yes (x := a.m1) (by simp [ms]) (by rw [off40_e ha.m1]; simpa using o1)]
        refine sh ?_
        exact rT
      · skip
        refine sh ?_
        refine ILoop.one 100 ?_
        refine sh ?_
        refine acnd_t (by decide) ?_
        refine sh ?_
        refine ICall.pure h.n255.o255.hb (fabs_c h.n255 ha.m2) rfl ?_
        refine sh ?_
        refine cS (fun o2 => ?_) (fun o2 => ?_)
        · rw [chk4_yes (x := a.m2) (by simp [ms]) (by rw [off40_e ha.m2]; simpa using o2)]
          refine sh ?_
          exact rT
        · skip
          refine sh ?_
          refine ILoop.one 100 ?_
          refine sh ?_
          refine acnd_t (by decide) ?_
          refine sh ?_
          refine ICall.pure h.n255.o255.hb (fabs_c h.n255 ha.m3) rfl ?_
          refine sh ?_
          refine cS (fun o3 => ?_) (fun o3 => ?_)
          · rw [chk4_yes (x := a.m3) (by simp [ms]) (by rw [off40_e ha.m3]; simpa using o3)]
            refine sh ?_
            exact rT
          · skip
            refine sh ?_
            refine ILoop.one 100 ?_
            refine sh ?_
            refine acnd_t (by decide) ?_
            refine sh ?_
            refine ICall.pure h.n255.o255.hb (fabs_c h.n255 ha.m4) rfl ?_
            refine sh ?_
            refine cS (fun o4 => ?_) (fun o4 => ?_)
            · rw [chk4_yes (x := a.m4) (by simp [ms]) (by rw [off40_e ha.m4]; simpa using o4)]
              refine sh ?_
              exact rT
            · skip
              refine sh ?_
              refine ILoop.one 100 ?_
              refine sh ?_
              refine acnd_t (by decide) ?_
              refine sh ?_
              refine ICall.pure h.n255.o255.hb (fabs_c h.n255 ha.m5) rfl ?_
              refine sh ?_
              refine cS (fun o5 => ?_) (fun o5 => ?_)
              · rw [chk4_yes (x := a.m5) (by simp [ms]) (by rw [off40_e ha.m5]; simpa using o5)]
                refine sh ?_
                exact rT
              · skip
                refine sh ?_
                refine ILoop.one 100 ?_
                refine sh ?_
                refine acnd_t (by decide) ?_
                refine sh ?_
                refine ICall.pure h.n255.o255.hb (fabs_c h.n255 ha.m6) rfl ?_
                refine sh ?_
                refine cS (fun o6 => ?_) (fun o6 => ?_)
                · rw [chk4_yes (x := a.m6) (by simp [ms]) (by rw [off40_e ha.m6]; simpa using o6)]
                  refine sh ?_
                  exact rT
                · skip
                  refine sh ?_
                  refine ILoop.one 100 ?_
                  refine sh ?_
                  refine acnd_t (by decide) ?_
                  refine sh ?_
                  refine ICall.pure h.n255.o255.hb (fabs_c h.n255 ha.m7) rfl ?_
                  refine sh ?_
                  refine cS (fun o7 => ?_) (fun o7 => ?_)
                  · rw [chk4_yes (x := a.m7) (by simp [ms]) (by rw [off40_e ha.m7]; simpa using o7)]
                    refine sh ?_
                    exact rT
                  · skip
                    refine sh ?_
                    refine ILoop.one 100 ?_
                    refine sh ?_
                    refine acnd_t (by decide) ?_
                    refine sh ?_
                    refine ICall.pure h.n255.o255.hb (fabs_c h.n255 ha.m8) rfl ?_
                    refine sh ?_
                    refine cS (fun o8 => ?_) (fun o8 => ?_)
                    · rw [chk4_yes (x := a.m8) (by simp [ms]) (by rw [off40_e ha.m8]; simpa using o8)]
                      refine sh ?_
                      exact rT
                    · skip
                      refine sh ?_
                      refine ILoop.one 100 ?_
                      refine sh ?_
                      refine acnd_f (by decide) ?_
                      have hno : (ms a).any off40 = false := by
                        simp only [ms, List.any_cons, List.any_nil, (off40_e ha.m0).trans (decide_eq_false (by omega)), (off40_e ha.m1).trans (decide_eq_false (by omega)), (off40_e ha.m2).trans (decide_eq_false (by omega)), (off40_e ha.m3).trans (decide_eq_false (by omega)), (off40_e ha.m4).trans (decide_eq_false (by omega)), (off40_e ha.m5).trans (decide_eq_false (by omega)), (off40_e ha.m6).trans (decide_eq_false (by omega)), (off40_e ha.m7).trans (decide_eq_false (by omega)), (off40_e ha.m8).trans (decide_eq_false (by omega))]
                        rfl
                      unfold chk4
                      rw [if_neg (by rw [hno]; simp)]
                      refine sh ?_
                      refine ICall.pure h.n256.o256.hb (vmost_c h.n256 ha.t) rfl ?_
                      refine sh ?_
                      refine cS (fun w => ?_) (fun w => ?_)
                      · rw [if_pos (by omega)]
                        refine sh ?_
                        exact rT
                      · rw [if_neg (by omega)]
                        refine sh ?_
                        exact rT
theorem rcheck4_c {R : Env} (h : N236 R) {a : Af} (ha : a.I) : R.Pc 236 [.agg a.row] (.int .i64 (chk4 a)) :=
  h.o236.enter 100 rfl fun X bb hfit hp => by
    refine sh ?_
    refine ILoop.one 100 ?_
    refine sh ?_
    refine acnd_t (by decide) ?_
    refine sh ?_
    refine cS (fun o0 => ?_) (fun o0 => ?_)
    · rw [chk4_yes (x := a.m0) (by simp [ms]) (by simp [off40]; omega)]
      refine sh ?_
      exact rT
    · refine sh ?_
      refine cS (fun q0 => ?_) (fun q0 => ?_)
      · rw [chk4_yes (x := a.m0) (by simp [ms]) (by simp [off40]; omega)]
        refine sh ?_
        exact rT
      · skip
        refine sh ?_
        refine ILoop.one 100 ?_
        refine sh ?_
        refine acnd_t (by decide) ?_
        refine sh ?_
        refine cS (fun o1 => ?_) (fun o1 => ?_)
        · rw [chk4_yes (x := a.m1) (by simp [ms]) (by simp [off40]; omega)]
          refine sh ?_
          exact rT
        · refine sh ?_
          refine cS (fun q1 => ?_) (fun q1 => ?_)
          · rw [chk4_yes (x := a.m1) (by simp [ms]) (by simp [off40]; omega)]
            refine sh ?_
            exact rT
          · skip
            refine sh ?_
            refine ILoop.one 100 ?_
            refine sh ?_
            refine acnd_t (by decide) ?_
            refine sh ?_
            refine cS (fun o2 => ?_) (fun o2 => ?_)
            · rw [chk4_yes (x := a.m2) (by simp [ms]) (by simp [off40]; omega)]
              refine sh ?_
              exact rT
            · refine sh ?_
              refine cS (fun q2 => ?_) (fun q2 => ?_)
              · rw [chk4_yes (x := a.m2) (by simp [ms]) (by simp [off40]; omega)]
                refine sh ?_
                exact rT
              · skip
                refine sh ?_
                refine ILoop.one 100 ?_
                refine sh ?_
                refine acnd_t (by decide) ?_
                refine sh ?_
                refine cS (fun o3 => ?_) (fun o3 => ?_)
                · rw [chk4_yes (x := a.m3) (by simp [ms]) (by simp [off40]; omega)]
                  refine sh ?_
                  exact rT
                · refine sh ?_
                  refine cS (fun q3 => ?_) (fun q3 => ?_)
                  · rw [chk4_yes (x := a.m3) (by simp [ms]) (by simp [off40]; omega)]
                    refine sh ?_
                    exact rT
                  · skip
                    refine sh ?_
                    refine ILoop.one 100 ?_
                    refine sh ?_
                    refine acnd_t (by decide) ?_
                    refine sh ?_
                    refine cS (fun o4 => ?_) (fun o4 => ?_)
                    · rw [chk4_yes (x := a.m4) (by simp [ms]) (by simp [off40]; omega)]
                      refine sh ?_
                      exact rT
                    · refine sh ?_
                      refine cS (fun q4 => ?_) (fun q4 => ?_)
                      · rw [chk4_yes (x := a.m4) (by simp [ms]) (by simp [off40]; omega)]
                        refine sh ?_
                        exact rT
                      · skip
                        refine sh ?_
                        refine ILoop.one 100 ?_
                        refine sh ?_
                        refine acnd_t (by decide) ?_
                        refine sh ?_
                        refine cS (fun o5 => ?_) (fun o5 => ?_)
                        · rw [chk4_yes (x := a.m5) (by simp [ms]) (by simp [off40]; omega)]
                          refine sh ?_
                          exact rT
                        · refine sh ?_
                          refine cS (fun q5 => ?_) (fun q5 => ?_)
                          · rw [chk4_yes (x := a.m5) (by simp [ms]) (by simp [off40]; omega)]
                            refine sh ?_
                            exact rT
                          · skip
                            refine sh ?_
                            refine ILoop.one 100 ?_
                            refine sh ?_
                            refine acnd_t (by decide) ?_
                            refine sh ?_
                            refine cS (fun o6 => ?_) (fun o6 => ?_)
                            · rw [chk4_yes (x := a.m6) (by simp [ms]) (by simp [off40]; omega)]
                              refine sh ?_
                              exact rT
                            · refine sh ?_
                              refine cS (fun q6 => ?_) (fun q6 => ?_)
                              · rw [chk4_yes (x := a.m6) (by simp [ms]) (by simp [off40]; omega)]
                                refine sh ?_
                                exact rT
                              · skip
                                refine sh ?_
                                refine ILoop.one 100 ?_
                                refine sh ?_
                                refine acnd_t (by decide) ?_
                                refine sh ?_
                                refine cS (fun o7 => ?_) (fun o7 => ?_)
                                · rw [chk4_yes (x := a.m7) (by simp [ms]) (by simp [off40]; omega)]
                                  refine sh ?_
                                  exact rT
                                · refine sh ?_
                                  refine cS (fun q7 => ?_) (fun q7 => ?_)
                                  · rw [chk4_yes (x := a.m7) (by simp [ms]) (by simp [off40]; omega)]
                                    refine sh ?_
                                    exact rT
                                  · skip
                                    refine sh ?_
                                    refine ILoop.one 100 ?_
                                    refine sh ?_
                                    refine acnd_t (by decide) ?_
                                    refine sh ?_
                                    refine cS (fun o8 => ?_) (fun o8 => ?_)
                                    · rw [chk4_yes (x := a.m8) (by simp [ms]) (by simp [off40]; omega)]
                                      refine sh ?_
                                      exact rT
                                    · refine sh ?_
                                      refine cS (fun q8 => ?_) (fun q8 => ?_)
                                      · rw [chk4_yes (x := a.m8) (by simp [ms]) (by simp [off40]; omega)]
                                        refine sh ?_
                                        exact rT
                                      · skip
                                        refine sh ?_
                                        refine ILoop.one 100 ?_
                                        refine sh ?_
                                        refine acnd_f (by decide) ?_
                                        have hno : (ms a).any off40 = false := by
                                          simp only [ms, List.any_cons, List.any_nil, (show off40 a.m0 = false by simp [off40]; omega), (show off40 a.m1 = false by simp [off40]; omega), (show off40 a.m2 = false by simp [off40]; omega), (show off40 a.m3 = false by simp [off40]; omega), (show off40 a.m4 = false by simp [off40]; omega), (show off40 a.m5 = false by simp [off40]; omega), (show off40 a.m6 = false by simp [off40]; omega), (show off40 a.m7 = false by simp [off40]; omega), (show off40 a.m8 = false by simp [off40]; omega)]
                                          rfl
                                        unfold chk4
                                        rw [if_neg (by rw [hno]; simp)]
                                        refine sh ?_
                                        refine ICall.pure h.n257.o257.hb (rmost_c h.n257 ha.t) rfl ?_
                                        refine sh ?_
                                        refine cS (fun w => ?_) (fun w => ?_)
                                        · rw [if_pos (by omega)]
                                          refine sh ?_
                                          exact rT
                                        · rw [if_neg (by omega)]
                                          refine sh ?_
                                          exact rT
end Go.UM
