/- Of the reckoning machine, and what is proved with it: texts joined by program. -/
import Derived.Test.YtfcclkehihjcbaaU0
import Derived.Test.YtfcclkehihjcbaaK2
set_option linter.all false

namespace Go.UM
open Go.AM
def c291 : IFn := { np := 1, rs := [.t 2], body :=
 (.seq
  (.ops [⟨some 1, none, .box 40 (.t 0)⟩,
    ⟨some 2, none, .mv (.k (.int .i64 0))⟩])
  (.seq
   (.seq
    (.ops [⟨some 4, none, .fldA 0 (.t 1)⟩,
      ⟨some 5, none, .load false 1 (.t 4)⟩,
      ⟨some 6, none, .bin .lss (.t 5) (.k (.int .i64 0))⟩,
      ⟨some 7, none, .mv (.t 6)⟩,
      ⟨some 8, some (7, false), .fldA 0 (.t 1)⟩,
      ⟨some 9, some (7, false), .load false 1 (.t 8)⟩,
      ⟨some 10, some (7, false), .bin .gtr (.t 9) (.k (.int .i64 4))⟩,
      ⟨some 11, none, .pick (.t 7) (.k (.bool true)) (.t 10)⟩,
      ⟨some 12, none, .mv (.t 11)⟩,
      ⟨some 13, some (12, false), .fldA 4 (.t 1)⟩,
      ⟨some 14, some (12, false), .load false 1 (.t 13)⟩,
      ⟨some 15, some (12, false), .bin .lss (.t 14) (.k (.int .i64 0))⟩,
      ⟨some 16, none, .pick (.t 12) (.k (.bool true)) (.t 15)⟩,
      ⟨some 17, none, .mv (.t 16)⟩,
      ⟨some 18, some (17, false), .fldA 4 (.t 1)⟩,
      ⟨some 19, some (17, false), .load false 1 (.t 18)⟩,
      ⟨some 20, some (17, false), .bin .gtr (.t 19) (.k (.int .i64 65535))⟩,
      ⟨some 21, none, .pick (.t 17) (.k (.bool true)) (.t 20)⟩])
    (.keep [1, 21]
     (.cond (.t 21)
      (.seq
       (.ops [⟨some 2, none, .mv (.k (.int .i64 5))⟩])
       .ret)
      .skip)))
   (.keep [1]
    (.seq
     (.seq
      (.ops [⟨some 3, none, .mv (.k (.int .i64 0))⟩])
      (.keep [1, 3]
       (.block 0
        (.loop
         (.seq
          (.seq
           (.ops [⟨some 22, none, .mv (.t 3)⟩,
             ⟨some 23, none, .bin .lss (.t 22) (.k (.int .i64 3))⟩])
           (.cond (.t 23)
            .skip
            (.exit 0)))
          (.keep [1, 3]
           (.seq
            (.block 1
             (.seq
              (.ops [⟨some 26, none, .mv (.t 3)⟩,
                ⟨some 27, none, .fldA 1 (.t 1)⟩,
                ⟨some 28, none, .idxA 3 1 (.t 27) (.t 26)⟩,
                ⟨some 29, none, .load false 1 (.t 28)⟩,
                ⟨some 30, none, .bin .lss (.t 29) (.k (.int .i64 0))⟩,
                ⟨some 31, none, .mv (.t 30)⟩,
                ⟨some 32, some (31, false), .mv (.t 3)⟩,
                ⟨some 33, some (31, false), .fldA 1 (.t 1)⟩,
                ⟨some 34, some (31, false), .idxA 3 1 (.t 33) (.t 32)⟩,
                ⟨some 35, some (31, false), .load false 1 (.t 34)⟩,
                ⟨some 36, some (31, false), .bin .gtr (.t 35) (.k (.int .i64 65535))⟩,
                ⟨some 37, none, .pick (.t 31) (.k (.bool true)) (.t 36)⟩])
              (.keep [1, 3, 37]
               (.cond (.t 37)
                (.seq
                 (.ops [⟨some 2, none, .mv (.k (.int .i64 5))⟩])
                 .ret)
                .skip))))
            (.keep [1, 3]
             (.ops [⟨some 24, none, .mv (.t 3)⟩,
               ⟨some 25, none, .bin .add (.t 24) (.k (.int .i64 1))⟩,
               ⟨some 3, none, .mv (.t 25)⟩])))))))))
     (.keep []
      (.seq
       (.ops [⟨some 2, none, .mv (.k (.int .i64 0))⟩])
       .ret)))))) }
structure N291 (R : Env) : Prop where
  o291 : R.Fn 291 c291
def c293 : IFn := { np := 1, rs := [.t 2], body :=
 (.seq
  (.ops [⟨some 1, none, .box 41 (.t 0)⟩,
    ⟨some 2, none, .mv (.k (.int .i64 0))⟩])
  (.seq
   (.seq
    (.ops [⟨some 5, none, .fldA 0 (.t 1)⟩,
      ⟨some 6, none, .load false 1 (.t 5)⟩,
      ⟨some 7, none, .bin .lss (.t 6) (.k (.int .i64 0))⟩,
      ⟨some 8, none, .mv (.t 7)⟩,
      ⟨some 9, some (8, false), .fldA 0 (.t 1)⟩,
      ⟨some 10, some (8, false), .load false 1 (.t 9)⟩,
      ⟨some 11, some (8, false), .bin .gtr (.t 10) (.k (.int .i64 2))⟩,
      ⟨some 12, none, .pick (.t 8) (.k (.bool true)) (.t 11)⟩])
    (.keep [1, 12]
     (.cond (.t 12)
      (.seq
       (.ops [⟨some 2, none, .mv (.k (.int .i64 5))⟩])
       .ret)
      .skip)))
   (.keep [1]
    (.seq
     (.seq
      (.ops [⟨some 3, none, .mv (.k (.int .i64 0))⟩])
      (.keep [1, 3]
       (.block 0
        (.loop
         (.seq
          (.seq
           (.ops [⟨some 13, none, .mv (.t 3)⟩,
             ⟨some 14, none, .bin .lss (.t 13) (.k (.int .i64 3))⟩])
           (.cond (.t 14)
            .skip
            (.exit 0)))
          (.keep [1, 3]
           (.seq
            (.block 1
             (.seq
              (.ops [⟨some 17, none, .mv (.t 3)⟩,
                ⟨some 18, none, .fldA 1 (.t 1)⟩,
                ⟨some 19, none, .idxA 3 1 (.t 18) (.t 17)⟩,
                ⟨some 20, none, .load false 1 (.t 19)⟩,
                ⟨some 21, none, .bin .lss (.t 20) (.k (.int .i64 0))⟩,
                ⟨some 22, none, .mv (.t 21)⟩,
                ⟨some 23, some (22, false), .mv (.t 3)⟩,
                ⟨some 24, some (22, false), .fldA 1 (.t 1)⟩,
                ⟨some 25, some (22, false), .idxA 3 1 (.t 24) (.t 23)⟩,
                ⟨some 26, some (22, false), .load false 1 (.t 25)⟩,
                ⟨some 27, some (22, false), .bin .gtr (.t 26) (.k (.int .i64 1048576))⟩,
                ⟨some 28, none, .pick (.t 22) (.k (.bool true)) (.t 27)⟩])
              (.keep [1, 3, 28]
               (.cond (.t 28)
                (.seq
                 (.ops [⟨some 2, none, .mv (.k (.int .i64 5))⟩])
                 .ret)
                .skip))))
            (.keep [1, 3]
             (.ops [⟨some 15, none, .mv (.t 3)⟩,
               ⟨some 16, none, .bin .add (.t 15) (.k (.int .i64 1))⟩,
               ⟨some 3, none, .mv (.t 16)⟩])))))))))
     (.keep [1]
      (.seq
       (.seq
        (.ops [⟨some 29, none, .fldA 4 (.t 1)⟩,
          ⟨some 30, none, .load true 3 (.t 29)⟩,
          ⟨some 31, none, .call 213 [.t 30, .k (.int .i64 4096)]⟩,
          ⟨some 32, none, .mv (.t 31)⟩,
          ⟨some 33, some (32, false), .fldA 7 (.t 1)⟩,
          ⟨some 34, some (32, false), .load true 3 (.t 33)⟩,
          ⟨some 35, some (32, false), .call 213 [.t 34, .k (.int .i64 4096)]⟩,
          ⟨some 36, none, .pick (.t 32) (.k (.bool true)) (.t 35)⟩,
          ⟨some 37, none, .mv (.t 36)⟩,
          ⟨some 38, some (37, false), .fldA 10 (.t 1)⟩,
          ⟨some 39, some (37, false), .load true 3 (.t 38)⟩,
          ⟨some 40, some (37, false), .call 213 [.t 39, .k (.int .i64 4096)]⟩,
          ⟨some 41, none, .pick (.t 37) (.k (.bool true)) (.t 40)⟩])
        (.keep [1, 41]
         (.cond (.t 41)
          (.seq
           (.ops [⟨some 2, none, .mv (.k (.int .i64 8))⟩])
           .ret)
          .skip)))
       (.keep [1]
        (.seq
         (.ops [⟨some 42, none, .build [.int .i64 0, .int .i64 0, .int .i64 0] []⟩,
           ⟨some 4, none, .alloc 26 [.int .i64 0, .int .i64 0, .int .i64 0]⟩,
           ⟨none, none, .store 3 (.t 4) (.t 42)⟩])
         (.seq
          (.seq
           (.ops [⟨some 43, none, .fldA 0 (.t 1)⟩,
             ⟨some 44, none, .load false 1 (.t 43)⟩,
             ⟨some 45, none, .bin .eql (.t 44) (.k (.int .i64 2))⟩,
             ⟨some 46, none, .mv (.t 45)⟩,
             ⟨some 47, some (46, true), .fldA 4 (.t 1)⟩,
             ⟨some 48, some (46, true), .load true 3 (.t 47)⟩,
             ⟨some 49, some (46, true), .load true 3 (.t 4)⟩,
             ⟨some 50, some (46, true), .eqa true [.i, .i, .i] (.t 48) (.t 49)⟩,
             ⟨some 51, none, .pick (.t 46) (.t 50) (.k (.bool false))⟩,
             ⟨some 52, none, .mv (.t 51)⟩,
             ⟨some 53, some (52, false), .fldA 0 (.t 1)⟩,
             ⟨some 54, some (52, false), .load false 1 (.t 53)⟩,
             ⟨some 55, some (52, false), .bin .neq (.t 54) (.k (.int .i64 1))⟩,
             ⟨some 56, some (52, false), .mv (.t 55)⟩,
             ⟨some 57, some (56, true), .fldA 7 (.t 1)⟩,
             ⟨some 58, some (56, true), .load true 3 (.t 57)⟩,
             ⟨some 59, some (56, true), .load true 3 (.t 4)⟩,
             ⟨some 60, some (56, true), .eqa true [.i, .i, .i] (.t 58) (.t 59)⟩,
             ⟨some 61, some (56, true), .mv (.t 60)⟩,
             ⟨some 62, some (61, false), .fldA 10 (.t 1)⟩,
             ⟨some 63, some (61, false), .load true 3 (.t 62)⟩,
             ⟨some 64, some (61, false), .load true 3 (.t 4)⟩,
             ⟨some 65, some (61, false), .eqa true [.i, .i, .i] (.t 63) (.t 64)⟩,
             ⟨some 66, some (56, true), .pick (.t 61) (.k (.bool true)) (.t 65)⟩,
             ⟨some 67, some (52, false), .pick (.t 56) (.t 66) (.k (.bool false))⟩,
             ⟨some 68, none, .pick (.t 52) (.k (.bool true)) (.t 67)⟩])
           (.keep [68]
            (.cond (.t 68)
             (.seq
              (.ops [⟨some 2, none, .mv (.k (.int .i64 5))⟩])
              .ret)
             .skip)))
          (.keep []
           (.seq
            (.ops [⟨some 2, none, .mv (.k (.int .i64 0))⟩])
            .ret))))))))))) }
structure N293 (R : Env) : Prop where
  o293 : R.Fn 293 c293
  n213 : N213 R
def c312 : IFn := { np := 1, rs := [.t 2], body :=
 (.seq
  (.ops [⟨some 1, none, .box 12 (.t 0)⟩,
    ⟨some 2, none, .mv (.k (.bool false))⟩])
  (.seq
   (.ops [⟨some 3, none, .fldA 0 (.t 1)⟩,
     ⟨some 4, none, .load false 1 (.t 3)⟩,
     ⟨some 5, none, .bin .neq (.t 4) (.k (.int .i64 0))⟩,
     ⟨some 6, none, .mv (.t 5)⟩,
     ⟨some 7, some (6, false), .fldA 1 (.t 1)⟩,
     ⟨some 8, some (6, false), .load false 1 (.t 7)⟩,
     ⟨some 9, some (6, false), .lenS (.t 8)⟩,
     ⟨some 10, some (6, false), .bin .gtr (.t 9) (.k (.int .i64 0))⟩,
     ⟨some 11, none, .pick (.t 6) (.k (.bool true)) (.t 10)⟩,
     ⟨some 2, none, .mv (.t 11)⟩])
   (.keep [2]
    .ret))) }
structure N312 (R : Env) : Prop where
  o312 : R.Fn 312 c312
def c313 : IFn := { np := 1, rs := [.t 2], body :=
 (.seq
  (.ops [⟨some 1, none, .box 25 (.t 0)⟩,
    ⟨some 2, none, .mv (.k (.bool false))⟩])
  (.seq
   (.ops [⟨some 3, none, .fldA 0 (.t 1)⟩,
     ⟨some 4, none, .load false 1 (.t 3)⟩,
     ⟨some 5, none, .lenS (.t 4)⟩,
     ⟨some 6, none, .fldA 1 (.t 1)⟩,
     ⟨some 7, none, .load false 1 (.t 6)⟩,
     ⟨some 8, none, .lenS (.t 7)⟩,
     ⟨some 9, none, .bin .add (.t 5) (.t 8)⟩,
     ⟨some 10, none, .fldA 2 (.t 1)⟩,
     ⟨some 11, none, .load false 1 (.t 10)⟩,
     ⟨some 12, none, .lenS (.t 11)⟩,
     ⟨some 13, none, .bin .add (.t 9) (.t 12)⟩,
     ⟨some 14, none, .bin .gtr (.t 13) (.k (.int .i64 0))⟩,
     ⟨some 2, none, .mv (.t 14)⟩])
   (.keep [2]
    .ret))) }
structure N313 (R : Env) : Prop where
  o313 : R.Fn 313 c313
def c314 : IFn := { np := 1, rs := [.t 2], body :=
 (.seq
  (.ops [⟨some 1, none, .box 39 (.t 0)⟩,
    ⟨some 2, none, .mv (.k (.nils))⟩])
  (.seq
   (.seq
    (.ops [⟨some 14, none, .fldA 0 (.t 1)⟩,
      ⟨some 15, none, .load false 1 (.t 14)⟩,
      ⟨some 16, none, .bin .eql (.t 15) (.k (.int .i64 1))⟩])
    (.cond (.t 16)
     (.seq
      (.ops [⟨some 18, none, .fldA 1 (.t 1)⟩,
        ⟨some 19, none, .load true 3 (.t 18)⟩,
        ⟨some 20, none, .call 197 [.t 19]⟩,
        ⟨some 17, none, .mv (.t 20)⟩,
        ⟨some 21, none, .ext (.t 17) 0⟩,
        ⟨some 22, none, .ext (.t 17) 1⟩,
        ⟨some 3, none, .mv (.t 21)⟩,
        ⟨some 4, none, .mv (.t 22)⟩])
      (.keep [3]
       (.seq
        (.ops [⟨some 23, none, .mv (.t 3)⟩,
          ⟨some 2, none, .mv (.t 23)⟩])
        .ret)))
     .skip))
   (.keep [1]
    (.seq
     (.seq
      (.ops [⟨some 24, none, .fldA 0 (.t 1)⟩,
        ⟨some 25, none, .load false 1 (.t 24)⟩,
        ⟨some 26, none, .bin .eql (.t 25) (.k (.int .i64 2))⟩])
      (.cond (.t 26)
       (.seq
        (.ops [⟨some 28, none, .fldA 4 (.t 1)⟩,
          ⟨some 29, none, .load true 2 (.t 28)⟩,
          ⟨some 30, none, .call 83 [.t 29]⟩,
          ⟨some 27, none, .mv (.t 30)⟩,
          ⟨some 31, none, .ext (.t 27) 0⟩,
          ⟨some 32, none, .ext (.t 27) 1⟩,
          ⟨some 5, none, .mv (.t 31)⟩,
          ⟨some 6, none, .mv (.t 32)⟩])
        (.keep [5]
         (.seq
          (.ops [⟨some 33, none, .mv (.t 5)⟩,
            ⟨some 2, none, .mv (.t 33)⟩])
          .ret)))
       .skip))
     (.keep [1]
      (.seq
       (.seq
        (.ops [⟨some 34, none, .fldA 0 (.t 1)⟩,
          ⟨some 35, none, .load false 1 (.t 34)⟩,
          ⟨some 36, none, .bin .eql (.t 35) (.k (.int .i64 3))⟩])
        (.cond (.t 36)
         (.seq
          (.ops [⟨some 37, none, .fldA 6 (.t 1)⟩,
            ⟨some 38, none, .load true 5 (.t 37)⟩,
            ⟨some 7, none, .alloc 40 [.int .i64 0, .int .i64 0, .int .i64 0, .int .i64 0, .int .i64 0]⟩,
            ⟨none, none, .store 5 (.t 7) (.t 38)⟩])
          (.seq
           (.ops [⟨some 39, none, .fldA 0 (.t 7)⟩,
             ⟨some 40, none, .load false 1 (.t 39)⟩,
             ⟨some 41, none, .conv .u8 (.t 40)⟩,
             ⟨some 42, none, .bslice 4 1 1 [.int .u8 0] [(0, .t 41)]⟩,
             ⟨some 8, none, .mv (.t 42)⟩])
           (.keep [7, 8]
            (.seq
             (.ops [⟨some 43, none, .fldA 1 (.t 7)⟩,
               ⟨some 44, none, .idxA 3 1 (.t 43) (.k (.int .i64 0))⟩,
               ⟨some 45, none, .load false 1 (.t 44)⟩,
               ⟨some 46, none, .fldA 1 (.t 7)⟩,
               ⟨some 47, none, .idxA 3 1 (.t 46) (.k (.int .i64 1))⟩,
               ⟨some 48, none, .load false 1 (.t 47)⟩,
               ⟨some 49, none, .fldA 1 (.t 7)⟩,
               ⟨some 50, none, .idxA 3 1 (.t 49) (.k (.int .i64 2))⟩,
               ⟨some 51, none, .load false 1 (.t 50)⟩,
               ⟨some 52, none, .fldA 4 (.t 7)⟩,
               ⟨some 53, none, .load false 1 (.t 52)⟩,
               ⟨some 54, none, .bslice 10 1 4 [.int .i64 0] [(0, .t 45), (1, .t 48), (2, .t 51), (3, .t 53)]⟩,
               ⟨some 9, none, .mv (.t 54)⟩])
             (.keep [8, 9]
              (.seq
               (.seq
                (.ops [⟨some 10, none, .mv (.k (.int .i64 0))⟩])
                (.keep [8, 9, 10]
                 (.block 0
                  (.loop
                   (.seq
                    (.seq
                     (.ops [⟨some 55, none, .mv (.t 10)⟩,
                       ⟨some 56, none, .bin .lss (.t 55) (.k (.int .i64 4))⟩])
                     (.cond (.t 56)
                      .skip
                      (.exit 0)))
                    (.keep [8, 9, 10]
                     (.seq
                      (.block 1
                       (.draw [0, 0, 0, 6, 14, 30, 62, 0, 0, 384, 896, 1920, 3968, 8190, 16383, 32767] [[8], [9], [10], [60, 61], [62], [63], [64], [9], [10], [66, 67], [68], [69], [70], [65, 71], [59, 72], [73]] [⟨some 59, none, .mv (.t 8)⟩,
                         ⟨some 60, none, .mv (.t 9)⟩,
                         ⟨some 61, none, .mv (.t 10)⟩,
                         ⟨some 62, none, .idxS 1 (.t 60) (.t 61)⟩,
                         ⟨some 63, none, .load false 1 (.t 62)⟩,
                         ⟨some 64, none, .bin .rem (.t 63) (.k (.int .i64 256))⟩,
                         ⟨some 65, none, .conv .u8 (.t 64)⟩,
                         ⟨some 66, none, .mv (.t 9)⟩,
                         ⟨some 67, none, .mv (.t 10)⟩,
                         ⟨some 68, none, .idxS 1 (.t 66) (.t 67)⟩,
                         ⟨some 69, none, .load false 1 (.t 68)⟩,
                         ⟨some 70, none, .bin .quo (.t 69) (.k (.int .i64 256))⟩,
                         ⟨some 71, none, .conv .u8 (.t 70)⟩,
                         ⟨some 72, none, .bslice 4 1 2 [.int .u8 0] [(0, .t 65), (1, .t 71)]⟩,
                         ⟨some 73, none, .app 4 1 (.t 59) (.t 72)⟩,
                         ⟨some 8, none, .mv (.t 73)⟩]))
                      (.keep [8, 9, 10]
                       (.ops [⟨some 57, none, .mv (.t 10)⟩,
                         ⟨some 58, none, .bin .add (.t 57) (.k (.int .i64 1))⟩,
                         ⟨some 10, none, .mv (.t 58)⟩])))))))))
               (.keep [8]
                (.seq
                 (.ops [⟨some 74, none, .mv (.t 8)⟩,
                   ⟨some 2, none, .mv (.t 74)⟩])
                 .ret))))))))
         .skip))
       (.keep [1]
        (.seq
         (.ops [⟨some 75, none, .fldA 11 (.t 1)⟩,
           ⟨some 76, none, .load true 13 (.t 75)⟩,
           ⟨some 11, none, .alloc 41 [.int .i64 0, .int .i64 0, .int .i64 0, .int .i64 0, .int .i64 0, .int .i64 0, .int .i64 0, .int .i64 0, .int .i64 0, .int .i64 0, .int .i64 0, .int .i64 0, .int .i64 0]⟩,
           ⟨none, none, .store 13 (.t 11) (.t 76)⟩])
         (.seq
          (.ops [⟨some 77, none, .fldA 0 (.t 11)⟩,
            ⟨some 78, none, .load false 1 (.t 77)⟩,
            ⟨some 79, none, .conv .u8 (.t 78)⟩,
            ⟨some 80, none, .bslice 4 1 1 [.int .u8 0] [(0, .t 79)]⟩,
            ⟨some 12, none, .mv (.t 80)⟩])
          (.keep [11, 12]
           (.seq
            (.seq
             (.ops [⟨some 13, none, .mv (.k (.int .i64 0))⟩])
             (.keep [11, 12, 13]
              (.block 2
               (.loop
                (.seq
                 (.seq
                  (.ops [⟨some 81, none, .mv (.t 13)⟩,
                    ⟨some 82, none, .bin .lss (.t 81) (.k (.int .i64 3))⟩])
                  (.cond (.t 82)
                   .skip
                   (.exit 2)))
                 (.keep [11, 12, 13]
                  (.seq
                   (.block 3
                    (.ops [⟨some 86, none, .mv (.t 12)⟩,
                      ⟨some 87, none, .mv (.t 13)⟩,
                      ⟨some 88, none, .fldA 1 (.t 11)⟩,
                      ⟨some 89, none, .idxA 3 1 (.t 88) (.t 87)⟩,
                      ⟨some 90, none, .load false 1 (.t 89)⟩,
                      ⟨some 91, none, .conv .u64 (.t 90)⟩,
                      ⟨some 92, none, .bslice 6 1 1 [.int .u64 0] [(0, .t 91)]⟩,
                      ⟨some 93, none, .call 55 [.t 86, .k (.int .i64 4), .t 92]⟩,
                      ⟨some 85, none, .mv (.t 93)⟩,
                      ⟨some 94, none, .ext (.t 85) 0⟩,
                      ⟨some 95, none, .ext (.t 85) 1⟩,
                      ⟨some 12, none, .mv (.t 94)⟩]))
                   (.keep [11, 12, 13]
                    (.ops [⟨some 83, none, .mv (.t 13)⟩,
                      ⟨some 84, none, .bin .add (.t 83) (.k (.int .i64 1))⟩,
                      ⟨some 13, none, .mv (.t 84)⟩])))))))))
            (.keep [11, 12]
             (.seq
              (.draw [0, 0, 2, 7, 0, 16, 63, 0, 128, 511, 1023] [[12], [11], [97], [96, 98], [11], [100], [99, 101], [11], [103], [102, 104], [105]] [⟨some 96, none, .mv (.t 12)⟩,
                ⟨some 97, none, .fldA 4 (.t 11)⟩,
                ⟨some 98, none, .load true 3 (.t 97)⟩,
                ⟨some 99, none, .call 212 [.t 96, .t 98]⟩,
                ⟨some 100, none, .fldA 7 (.t 11)⟩,
                ⟨some 101, none, .load true 3 (.t 100)⟩,
                ⟨some 102, none, .call 212 [.t 99, .t 101]⟩,
                ⟨some 103, none, .fldA 10 (.t 11)⟩,
                ⟨some 104, none, .load true 3 (.t 103)⟩,
                ⟨some 105, none, .call 212 [.t 102, .t 104]⟩,
                ⟨some 2, none, .mv (.t 105)⟩])
              (.keep [2]
               .ret)))))))))))))) }
structure N314 (R : Env) : Prop where
  o314 : R.Fn 314 c314
  n55 : N55 R
  n83 : N83 R
  n197 : N197 R
  n212 : N212 R
def c295 : IFn := { np := 1, rs := [.t 2], body :=
 (.seq
  (.ops [⟨some 1, none, .box 39 (.t 0)⟩,
    ⟨some 2, none, .mv (.k (.int .i64 0))⟩])
  (.seq
   (.ops [⟨some 3, none, .mv (.k (.int .i64 12))⟩])
   (.seq
    (.ops [⟨some 4, none, .mv (.k (.bool false))⟩])
    (.seq
     (.seq
      (.ops [⟨some 5, none, .fldA 0 (.t 1)⟩,
        ⟨some 6, none, .load false 1 (.t 5)⟩])
      (.block 0
       (.seq
        (.ops [⟨some 8, none, .bin .eql (.t 6) (.k (.int .i64 1))⟩,
          ⟨some 7, none, .mv (.t 8)⟩])
        (.cond (.t 7)
         (.seq
          (.ops [⟨some 9, none, .fldA 1 (.t 1)⟩,
            ⟨some 10, none, .load true 3 (.t 9)⟩,
            ⟨some 11, none, .call 198 [.t 10]⟩,
            ⟨some 3, none, .mv (.t 11)⟩])
          (.ops [⟨some 12, none, .fldA 4 (.t 1)⟩,
            ⟨some 13, none, .load true 2 (.t 12)⟩,
            ⟨some 14, none, .call 312 [.t 13]⟩,
            ⟨some 15, none, .mv (.t 14)⟩,
            ⟨some 16, some (15, false), .fldA 6 (.t 1)⟩,
            ⟨some 17, some (15, false), .load true 5 (.t 16)⟩,
            ⟨some 18, some (15, false), .build [.int .i64 0, .int .i64 0, .int .i64 0, .int .i64 0, .int .i64 0] []⟩,
            ⟨some 19, some (15, false), .eqa true [.i, .i, .i, .i, .i] (.t 17) (.t 18)⟩,
            ⟨some 20, none, .pick (.t 15) (.k (.bool true)) (.t 19)⟩,
            ⟨some 21, none, .mv (.t 20)⟩,
            ⟨some 22, some (21, false), .fldA 11 (.t 1)⟩,
            ⟨some 23, some (21, false), .load true 13 (.t 22)⟩,
            ⟨some 24, some (21, false), .build [.int .i64 0, .int .i64 0, .int .i64 0, .int .i64 0, .int .i64 0, .int .i64 0, .int .i64 0, .int .i64 0, .int .i64 0, .int .i64 0, .int .i64 0, .int .i64 0, .int .i64 0] []⟩,
            ⟨some 25, some (21, false), .eqa true [.i, .i, .i, .i, .i, .i, .i, .i, .i, .i, .i, .i, .i] (.t 23) (.t 24)⟩,
            ⟨some 26, none, .pick (.t 21) (.k (.bool true)) (.t 25)⟩,
            ⟨some 4, none, .mv (.t 26)⟩]))
         (.seq
          (.ops [⟨some 28, none, .bin .eql (.t 6) (.k (.int .i64 2))⟩,
            ⟨some 27, none, .mv (.t 28)⟩])
          (.cond (.t 27)
           (.seq
            (.ops [⟨some 29, none, .fldA 4 (.t 1)⟩,
              ⟨some 30, none, .load true 2 (.t 29)⟩,
              ⟨some 31, none, .call 85 [.t 30]⟩,
              ⟨some 3, none, .mv (.t 31)⟩])
            (.ops [⟨some 32, none, .fldA 1 (.t 1)⟩,
              ⟨some 33, none, .load true 3 (.t 32)⟩,
              ⟨some 34, none, .call 313 [.t 33]⟩,
              ⟨some 35, none, .mv (.t 34)⟩,
              ⟨some 36, some (35, false), .fldA 6 (.t 1)⟩,
              ⟨some 37, some (35, false), .load true 5 (.t 36)⟩,
              ⟨some 38, some (35, false), .build [.int .i64 0, .int .i64 0, .int .i64 0, .int .i64 0, .int .i64 0] []⟩,
              ⟨some 39, some (35, false), .eqa true [.i, .i, .i, .i, .i] (.t 37) (.t 38)⟩,
              ⟨some 40, none, .pick (.t 35) (.k (.bool true)) (.t 39)⟩,
              ⟨some 41, none, .mv (.t 40)⟩,
              ⟨some 42, some (41, false), .fldA 11 (.t 1)⟩,
              ⟨some 43, some (41, false), .load true 13 (.t 42)⟩,
              ⟨some 44, some (41, false), .build [.int .i64 0, .int .i64 0, .int .i64 0, .int .i64 0, .int .i64 0, .int .i64 0, .int .i64 0, .int .i64 0, .int .i64 0, .int .i64 0, .int .i64 0, .int .i64 0, .int .i64 0] []⟩,
              ⟨some 45, some (41, false), .eqa true [.i, .i, .i, .i, .i, .i, .i, .i, .i, .i, .i, .i, .i] (.t 43) (.t 44)⟩,
              ⟨some 46, none, .pick (.t 41) (.k (.bool true)) (.t 45)⟩,
              ⟨some 4, none, .mv (.t 46)⟩]))
           (.seq
            (.ops [⟨some 48, none, .bin .eql (.t 6) (.k (.int .i64 3))⟩,
              ⟨some 47, none, .mv (.t 48)⟩])
            (.cond (.t 47)
             (.seq
              (.ops [⟨some 49, none, .fldA 6 (.t 1)⟩,
                ⟨some 50, none, .load true 5 (.t 49)⟩,
                ⟨some 51, none, .call 291 [.t 50]⟩,
                ⟨some 3, none, .mv (.t 51)⟩])
              (.ops [⟨some 52, none, .fldA 1 (.t 1)⟩,
                ⟨some 53, none, .load true 3 (.t 52)⟩,
                ⟨some 54, none, .call 313 [.t 53]⟩,
                ⟨some 55, none, .mv (.t 54)⟩,
                ⟨some 56, some (55, false), .fldA 4 (.t 1)⟩,
                ⟨some 57, some (55, false), .load true 2 (.t 56)⟩,
                ⟨some 58, some (55, false), .call 312 [.t 57]⟩,
                ⟨some 59, none, .pick (.t 55) (.k (.bool true)) (.t 58)⟩,
                ⟨some 60, none, .mv (.t 59)⟩,
                ⟨some 61, some (60, false), .fldA 11 (.t 1)⟩,
                ⟨some 62, some (60, false), .load true 13 (.t 61)⟩,
                ⟨some 63, some (60, false), .build [.int .i64 0, .int .i64 0, .int .i64 0, .int .i64 0, .int .i64 0, .int .i64 0, .int .i64 0, .int .i64 0, .int .i64 0, .int .i64 0, .int .i64 0, .int .i64 0, .int .i64 0] []⟩,
                ⟨some 64, some (60, false), .eqa true [.i, .i, .i, .i, .i, .i, .i, .i, .i, .i, .i, .i, .i] (.t 62) (.t 63)⟩,
                ⟨some 65, none, .pick (.t 60) (.k (.bool true)) (.t 64)⟩,
                ⟨some 4, none, .mv (.t 65)⟩]))
             (.seq
              (.ops [⟨some 67, none, .bin .eql (.t 6) (.k (.int .i64 4))⟩,
                ⟨some 66, none, .mv (.t 67)⟩])
              (.cond (.t 66)
               (.seq
                (.ops [⟨some 68, none, .fldA 11 (.t 1)⟩,
                  ⟨some 69, none, .load true 13 (.t 68)⟩,
                  ⟨some 70, none, .call 293 [.t 69]⟩,
                  ⟨some 3, none, .mv (.t 70)⟩])
                (.ops [⟨some 71, none, .fldA 1 (.t 1)⟩,
                  ⟨some 72, none, .load true 3 (.t 71)⟩,
                  ⟨some 73, none, .call 313 [.t 72]⟩,
                  ⟨some 74, none, .mv (.t 73)⟩,
                  ⟨some 75, some (74, false), .fldA 4 (.t 1)⟩,
                  ⟨some 76, some (74, false), .load true 2 (.t 75)⟩,
                  ⟨some 77, some (74, false), .call 312 [.t 76]⟩,
                  ⟨some 78, none, .pick (.t 74) (.k (.bool true)) (.t 77)⟩,
                  ⟨some 79, none, .mv (.t 78)⟩,
                  ⟨some 80, some (79, false), .fldA 6 (.t 1)⟩,
                  ⟨some 81, some (79, false), .load true 5 (.t 80)⟩,
                  ⟨some 82, some (79, false), .build [.int .i64 0, .int .i64 0, .int .i64 0, .int .i64 0, .int .i64 0] []⟩,
                  ⟨some 83, some (79, false), .eqa true [.i, .i, .i, .i, .i] (.t 81) (.t 82)⟩,
                  ⟨some 84, none, .pick (.t 79) (.k (.bool true)) (.t 83)⟩,
                  ⟨some 4, none, .mv (.t 84)⟩]))
               .skip))))))))))
     (.keep [1, 3, 4]
      (.seq
       (.seq
        (.ops [⟨some 85, none, .mv (.t 3)⟩,
          ⟨some 86, none, .bin .neq (.t 85) (.k (.int .i64 0))⟩])
        (.cond (.t 86)
         (.seq
          (.ops [⟨some 87, none, .mv (.t 3)⟩,
            ⟨some 2, none, .mv (.t 87)⟩])
          .ret)
         .skip))
       (.keep [1, 4]
        (.seq
         (.seq
          (.ops [⟨some 88, none, .mv (.t 4)⟩])
          (.cond (.t 88)
           (.seq
            (.ops [⟨some 2, none, .mv (.k (.int .i64 5))⟩])
            .ret)
           .skip))
         (.keep [1]
          (.seq
           (.seq
            (.draw [0, 1, 3, 0, 8, 27, 63] [[1], [89], [90], [1], [92], [93], [91, 94]] [⟨some 89, none, .load true 24 (.t 1)⟩,
              ⟨some 90, none, .call 314 [.t 89]⟩,
              ⟨some 91, none, .lenS (.t 90)⟩,
              ⟨some 92, none, .fldA 0 (.t 1)⟩,
              ⟨some 93, none, .load false 1 (.t 92)⟩,
              ⟨some 94, none, .call 38 [.t 93]⟩,
              ⟨some 95, none, .bin .gtr (.t 91) (.t 94)⟩])
            (.keep [95]
             (.cond (.t 95)
              (.seq
               (.ops [⟨some 2, none, .mv (.k (.int .i64 9))⟩])
               .ret)
              .skip)))
           (.keep []
            (.seq
             (.ops [⟨some 2, none, .mv (.k (.int .i64 0))⟩])
             .ret)))))))))))) }
structure N295 (R : Env) : Prop where
  o295 : R.Fn 295 c295
  n38 : N38 R
  n85 : N85 R
  n198 : N198 R
  n291 : N291 R
  n293 : N293 R
  n312 : N312 R
  n313 : N313 R
  n314 : N314 R
def c299 : IFn := { np := 2, rs := [.t 4], body :=
 (.seq
  (.ops [⟨some 2, none, .box 39 (.t 0)⟩,
    ⟨some 3, none, .box 39 (.t 1)⟩,
    ⟨some 4, none, .mv (.k (.bool false))⟩])
  (.seq
   (.ops [⟨some 5, none, .fldA 0 (.t 2)⟩,
     ⟨some 6, none, .load false 1 (.t 5)⟩,
     ⟨some 7, none, .fldA 0 (.t 3)⟩,
     ⟨some 8, none, .load false 1 (.t 7)⟩,
     ⟨some 9, none, .bin .eql (.t 6) (.t 8)⟩,
     ⟨some 10, none, .mv (.t 9)⟩,
     ⟨some 11, some (10, true), .fldA 1 (.t 2)⟩,
     ⟨some 12, some (10, true), .load true 3 (.t 11)⟩,
     ⟨some 13, some (10, true), .fldA 1 (.t 3)⟩,
     ⟨some 14, some (10, true), .load true 3 (.t 13)⟩,
     ⟨some 15, some (10, true), .call 204 [.t 12, .t 14]⟩,
     ⟨some 16, none, .pick (.t 10) (.t 15) (.k (.bool false))⟩,
     ⟨some 17, none, .mv (.t 16)⟩,
     ⟨some 18, some (17, true), .fldA 4 (.t 2)⟩,
     ⟨some 19, some (17, true), .load true 2 (.t 18)⟩,
     ⟨some 20, some (17, true), .fldA 4 (.t 3)⟩,
     ⟨some 21, some (17, true), .load true 2 (.t 20)⟩,
     ⟨some 22, some (17, true), .call 89 [.t 19, .t 21]⟩,
     ⟨some 23, none, .pick (.t 17) (.t 22) (.k (.bool false))⟩,
     ⟨some 24, none, .mv (.t 23)⟩,
     ⟨some 25, some (24, true), .fldA 6 (.t 2)⟩,
     ⟨some 26, some (24, true), .load true 5 (.t 25)⟩,
     ⟨some 27, some (24, true), .fldA 6 (.t 3)⟩,
     ⟨some 28, some (24, true), .load true 5 (.t 27)⟩,
     ⟨some 29, some (24, true), .eqa false [.i, .i, .i, .i, .i] (.t 26) (.t 28)⟩,
     ⟨some 30, none, .pick (.t 24) (.t 29) (.k (.bool false))⟩,
     ⟨some 31, none, .mv (.t 30)⟩,
     ⟨some 32, some (31, true), .fldA 11 (.t 2)⟩,
     ⟨some 33, some (31, true), .load true 13 (.t 32)⟩,
     ⟨some 34, some (31, true), .fldA 11 (.t 3)⟩,
     ⟨some 35, some (31, true), .load true 13 (.t 34)⟩,
     ⟨some 36, some (31, true), .eqa false [.i, .i, .i, .i, .i, .i, .i, .i, .i, .i, .i, .i, .i] (.t 33) (.t 35)⟩,
     ⟨some 37, none, .pick (.t 31) (.t 36) (.k (.bool false))⟩,
     ⟨some 4, none, .mv (.t 37)⟩])
   (.keep [4]
    .ret))) }
structure N299 (R : Env) : Prop where
  o299 : R.Fn 299 c299
  n89 : N89 R
  n204 : N204 R
def c302 : IFn := { np := 1, rs := [.t 2, .t 3], body :=
 (.seq
  (.ops [⟨some 1, none, .box 39 (.t 0)⟩,
    ⟨some 2, none, .mv (.k (.nils))⟩,
    ⟨some 3, none, .mv (.k (.int .i64 0))⟩])
  (.seq
   (.seq
    (.ops [⟨some 5, none, .load true 24 (.t 1)⟩,
      ⟨some 6, none, .call 295 [.t 5]⟩,
      ⟨some 4, none, .mv (.t 6)⟩])
    (.seq
     (.ops [⟨some 7, none, .mv (.t 4)⟩,
       ⟨some 8, none, .bin .neq (.t 7) (.k (.int .i64 0))⟩])
     (.cond (.t 8)
      (.seq
       (.ops [⟨some 9, none, .mv (.t 4)⟩,
         ⟨some 2, none, .mv (.k (.nils))⟩,
         ⟨some 3, none, .mv (.t 9)⟩])
       .ret)
      .skip)))
   (.keep [1]
    (.seq
     (.ops [⟨some 10, none, .load true 24 (.t 1)⟩,
       ⟨some 11, none, .call 314 [.t 10]⟩,
       ⟨some 2, none, .mv (.t 11)⟩,
       ⟨some 3, none, .mv (.k (.int .i64 0))⟩])
     .ret)))) }
structure N302 (R : Env) : Prop where
  o302 : R.Fn 302 c302
  n295 : N295 R
  n314 : N314 R
def c321 : IFn := { np := 2, rs := [.cell 4 true 3], body :=
 (.seq
  (.ops [⟨some 4, none, .alloc 13 [.int .i64 0, .int .i64 0, .int .i64 0]⟩])
  (.seq
   (.ops [⟨some 8, none, .mv (.t 0)⟩,
     ⟨some 9, none, .mv (.t 1)⟩,
     ⟨some 10, none, .call 61 [.t 8, .t 9]⟩,
     ⟨some 11, none, .conv .i64 (.t 10)⟩,
     ⟨some 5, none, .mv (.t 11)⟩])
   (.keep [0, 1, 4, 5]
    (.seq
     (.ops [⟨some 12, none, .mv (.t 0)⟩,
       ⟨some 13, none, .mv (.t 1)⟩,
       ⟨some 14, none, .call 61 [.t 12, .t 13]⟩,
       ⟨some 15, none, .conv .i64 (.t 14)⟩,
       ⟨some 6, none, .mv (.t 15)⟩])
     (.keep [0, 1, 4, 5, 6]
      (.seq
       (.ops [⟨some 16, none, .mv (.t 0)⟩,
         ⟨some 17, none, .mv (.t 1)⟩,
         ⟨some 18, none, .call 61 [.t 16, .t 17]⟩,
         ⟨some 19, none, .conv .i64 (.t 18)⟩,
         ⟨some 7, none, .mv (.t 19)⟩])
       (.keep [4, 5, 6, 7]
        (.seq
         (.ops [⟨some 20, none, .mv (.t 5)⟩,
           ⟨some 21, none, .mv (.t 6)⟩,
           ⟨some 22, none, .mv (.t 7)⟩,
           ⟨some 23, none, .build [.int .i64 0, .int .i64 0, .int .i64 0] [(0, 1, .t 20), (1, 1, .t 21), (2, 1, .t 22)]⟩,
           ⟨none, none, .store 3 (.t 4) (.t 23)⟩])
         (.keep [4]
          .ret))))))))) }
structure N321 (R : Env) : Prop where
  o321 : R.Fn 321 c321
  n61 : N61 R
def c305 : IFn := { np := 2, rs := [.cell 4 true 24, .t 5], body :=
 (.seq
  (.ops [⟨some 4, none, .alloc 39 [.int .i64 0, .nils, .nils, .nils, .int .i64 0, .nils, .int .i64 0, .int .i64 0, .int .i64 0, .int .i64 0, .int .i64 0, .int .i64 0, .int .i64 0, .int .i64 0, .int .i64 0, .int .i64 0, .int .i64 0, .int .i64 0, .int .i64 0, .int .i64 0, .int .i64 0, .int .i64 0, .int .i64 0, .int .i64 0]⟩,
    ⟨some 5, none, .mv (.k (.int .i64 0))⟩])
  (.seq
   (.ops [⟨some 10, none, .mv (.t 0)⟩,
     ⟨some 11, none, .build [.int .i64 0, .nils, .nils, .nils, .int .i64 0, .nils, .int .i64 0, .int .i64 0, .int .i64 0, .int .i64 0, .int .i64 0, .int .i64 0, .int .i64 0, .int .i64 0, .int .i64 0, .int .i64 0, .int .i64 0, .int .i64 0, .int .i64 0, .int .i64 0, .int .i64 0, .int .i64 0, .int .i64 0, .int .i64 0] [(0, 1, .t 10)]⟩,
     ⟨some 6, none, .alloc 39 [.int .i64 0, .nils, .nils, .nils, .int .i64 0, .nils, .int .i64 0, .int .i64 0, .int .i64 0, .int .i64 0, .int .i64 0, .int .i64 0, .int .i64 0, .int .i64 0, .int .i64 0, .int .i64 0, .int .i64 0, .int .i64 0, .int .i64 0, .int .i64 0, .int .i64 0, .int .i64 0, .int .i64 0, .int .i64 0]⟩,
     ⟨none, none, .store 24 (.t 6) (.t 11)⟩])
   (.seq
    (.ops [⟨some 12, none, .mv (.t 1)⟩,
      ⟨some 13, none, .build [.nils, .int .i64 0, .int .i64 0] [(0, 1, .t 12)]⟩,
      ⟨some 14, none, .box 8 (.t 13)⟩,
      ⟨some 7, none, .mv (.t 14)⟩])
    (.seq
     (.ops [⟨some 8, none, .mv (.k (.int .i64 0))⟩])
     (.seq
      (.seq
       (.ops [⟨some 15, none, .mv (.t 0)⟩])
       (.block 0
        (.seq
         (.ops [⟨some 17, none, .bin .eql (.t 15) (.k (.int .i64 1))⟩,
           ⟨some 16, none, .mv (.t 17)⟩])
         (.cond (.t 16)
          (.ops [⟨some 19, none, .mv (.t 1)⟩,
            ⟨some 20, none, .call 203 [.t 19]⟩,
            ⟨some 18, none, .mv (.t 20)⟩,
            ⟨some 21, none, .ext (.t 18) 0⟩,
            ⟨some 22, none, .ext (.t 18) 1⟩,
            ⟨some 23, none, .fldA 1 (.t 6)⟩,
            ⟨none, none, .store 3 (.t 23) (.t 21)⟩,
            ⟨some 8, none, .mv (.t 22)⟩])
          (.seq
           (.ops [⟨some 25, none, .bin .eql (.t 15) (.k (.int .i64 2))⟩,
             ⟨some 24, none, .mv (.t 25)⟩])
           (.cond (.t 24)
            (.ops [⟨some 27, none, .mv (.t 1)⟩,
              ⟨some 28, none, .call 98 [.t 27]⟩,
              ⟨some 26, none, .mv (.t 28)⟩,
              ⟨some 29, none, .ext (.t 26) 0⟩,
              ⟨some 30, none, .ext (.t 26) 1⟩,
              ⟨some 31, none, .fldA 4 (.t 6)⟩,
              ⟨none, none, .store 2 (.t 31) (.t 29)⟩,
              ⟨some 8, none, .mv (.t 30)⟩])
            (.seq
             (.ops [⟨some 33, none, .bin .eql (.t 15) (.k (.int .i64 3))⟩,
               ⟨some 32, none, .mv (.t 33)⟩])
             (.cond (.t 32)
              (.seq
               (.ops [⟨some 34, none, .mv (.t 7)⟩,
                 ⟨some 35, none, .call 61 [.t 34, .k (.int .i64 1)]⟩,
                 ⟨some 36, none, .conv .i64 (.t 35)⟩,
                 ⟨some 37, none, .fldA 6 (.t 6)⟩,
                 ⟨some 38, none, .fldA 0 (.t 37)⟩,
                 ⟨none, none, .store 1 (.t 38) (.t 36)⟩])
               (.keep [4, 6, 7]
                (.seq
                 (.ops [⟨some 39, none, .mv (.t 7)⟩,
                   ⟨some 40, none, .call 321 [.t 39, .k (.int .i64 2)]⟩,
                   ⟨some 41, none, .fldA 6 (.t 6)⟩,
                   ⟨some 42, none, .fldA 1 (.t 41)⟩,
                   ⟨none, none, .store 3 (.t 42) (.t 40)⟩])
                 (.keep [4, 6, 7]
                  (.seq
                   (.ops [⟨some 43, none, .mv (.t 7)⟩,
                     ⟨some 44, none, .call 61 [.t 43, .k (.int .i64 2)]⟩,
                     ⟨some 45, none, .conv .i64 (.t 44)⟩,
                     ⟨some 46, none, .fldA 6 (.t 6)⟩,
                     ⟨some 47, none, .fldA 4 (.t 46)⟩,
                     ⟨none, none, .store 1 (.t 47) (.t 45)⟩])
                   (.keep [4, 6, 7]
                    (.ops [⟨some 48, none, .mv (.t 7)⟩,
                      ⟨some 49, none, .call 69 [.t 48]⟩,
                      ⟨some 8, none, .mv (.t 49)⟩])))))))
              (.seq
               (.ops [⟨some 51, none, .bin .eql (.t 15) (.k (.int .i64 4))⟩,
                 ⟨some 50, none, .mv (.t 51)⟩])
               (.cond (.t 50)
                (.seq
                 (.ops [⟨some 52, none, .mv (.t 7)⟩,
                   ⟨some 53, none, .call 61 [.t 52, .k (.int .i64 1)]⟩,
                   ⟨some 54, none, .conv .i64 (.t 53)⟩,
                   ⟨some 55, none, .fldA 11 (.t 6)⟩,
                   ⟨some 56, none, .fldA 0 (.t 55)⟩,
                   ⟨none, none, .store 1 (.t 56) (.t 54)⟩])
                 (.keep [4, 6, 7]
                  (.seq
                   (.ops [⟨some 57, none, .mv (.t 7)⟩,
                     ⟨some 58, none, .call 321 [.t 57, .k (.int .i64 4)]⟩,
                     ⟨some 59, none, .fldA 11 (.t 6)⟩,
                     ⟨some 60, none, .fldA 1 (.t 59)⟩,
                     ⟨none, none, .store 3 (.t 60) (.t 58)⟩])
                   (.keep [4, 6, 7]
                    (.seq
                     (.ops [⟨some 61, none, .mv (.t 7)⟩,
                       ⟨some 62, none, .call 216 [.t 61]⟩,
                       ⟨some 63, none, .fldA 11 (.t 6)⟩,
                       ⟨some 64, none, .fldA 4 (.t 63)⟩,
                       ⟨none, none, .store 3 (.t 64) (.t 62)⟩])
                     (.keep [4, 6, 7]
                      (.seq
                       (.ops [⟨some 65, none, .mv (.t 7)⟩,
                         ⟨some 66, none, .call 216 [.t 65]⟩,
                         ⟨some 67, none, .fldA 11 (.t 6)⟩,
                         ⟨some 68, none, .fldA 7 (.t 67)⟩,
                         ⟨none, none, .store 3 (.t 68) (.t 66)⟩])
                       (.keep [4, 6, 7]
                        (.seq
                         (.ops [⟨some 69, none, .mv (.t 7)⟩,
                           ⟨some 70, none, .call 216 [.t 69]⟩,
                           ⟨some 71, none, .fldA 11 (.t 6)⟩,
                           ⟨some 72, none, .fldA 10 (.t 71)⟩,
                           ⟨none, none, .store 3 (.t 72) (.t 70)⟩])
                         (.keep [4, 6, 7]
                          (.ops [⟨some 73, none, .mv (.t 7)⟩,
                            ⟨some 74, none, .call 69 [.t 73]⟩,
                            ⟨some 8, none, .mv (.t 74)⟩])))))))))))
                .skip))))))))))
      (.keep [4, 6, 8]
       (.seq
        (.seq
         (.ops [⟨some 75, none, .mv (.t 8)⟩,
           ⟨some 76, none, .bin .neq (.t 75) (.k (.int .i64 0))⟩])
         (.cond (.t 76)
          (.seq
           (.ops [⟨some 77, none, .build [.int .i64 0, .nils, .nils, .nils, .int .i64 0, .nils, .int .i64 0, .int .i64 0, .int .i64 0, .int .i64 0, .int .i64 0, .int .i64 0, .int .i64 0, .int .i64 0, .int .i64 0, .int .i64 0, .int .i64 0, .int .i64 0, .int .i64 0, .int .i64 0, .int .i64 0, .int .i64 0, .int .i64 0, .int .i64 0] []⟩,
             ⟨some 78, none, .mv (.t 8)⟩,
             ⟨none, none, .store 24 (.t 4) (.t 77)⟩,
             ⟨some 5, none, .mv (.t 78)⟩])
           .ret)
          .skip))
        (.keep [4, 6]
         (.seq
          (.seq
           (.ops [⟨some 79, none, .load true 24 (.t 6)⟩,
             ⟨some 80, none, .call 295 [.t 79]⟩,
             ⟨some 9, none, .mv (.t 80)⟩])
           (.seq
            (.ops [⟨some 81, none, .mv (.t 9)⟩,
              ⟨some 82, none, .bin .neq (.t 81) (.k (.int .i64 0))⟩])
            (.cond (.t 82)
             (.seq
              (.ops [⟨some 83, none, .build [.int .i64 0, .nils, .nils, .nils, .int .i64 0, .nils, .int .i64 0, .int .i64 0, .int .i64 0, .int .i64 0, .int .i64 0, .int .i64 0, .int .i64 0, .int .i64 0, .int .i64 0, .int .i64 0, .int .i64 0, .int .i64 0, .int .i64 0, .int .i64 0, .int .i64 0, .int .i64 0, .int .i64 0, .int .i64 0] []⟩,
                ⟨some 84, none, .mv (.t 9)⟩,
                ⟨none, none, .store 24 (.t 4) (.t 83)⟩,
                ⟨some 5, none, .mv (.t 84)⟩])
              .ret)
             .skip)))
          (.keep [4, 6]
           (.seq
            (.ops [⟨some 85, none, .load true 24 (.t 6)⟩,
              ⟨none, none, .store 24 (.t 4) (.t 85)⟩,
              ⟨some 5, none, .mv (.k (.int .i64 0))⟩])
            .ret))))))))))) }
structure N305 (R : Env) : Prop where
  o305 : R.Fn 305 c305
  n61 : N61 R
  n69 : N69 R
  n98 : N98 R
  n203 : N203 R
  n216 : N216 R
  n295 : N295 R
  n321 : N321 R
end Go.UM

namespace Go.UM
open Go.AM
def c289 : IFn := { np := 1, rs := [.cell 2 true 24], body :=
 (.seq
  (.ops [⟨some 1, none, .box 39 (.t 0)⟩,
    ⟨some 2, none, .alloc 39 [.int .i64 0, .nils, .nils, .nils, .int .i64 0, .nils, .int .i64 0, .int .i64 0, .int .i64 0, .int .i64 0, .int .i64 0, .int .i64 0, .int .i64 0, .int .i64 0, .int .i64 0, .int .i64 0, .int .i64 0, .int .i64 0, .int .i64 0, .int .i64 0, .int .i64 0, .int .i64 0, .int .i64 0, .int .i64 0]⟩])
  (.seq
   (.ops [⟨some 3, none, .fldA 1 (.t 1)⟩,
     ⟨some 4, none, .load true 3 (.t 3)⟩,
     ⟨some 5, none, .call 191 [.t 4]⟩,
     ⟨some 6, none, .fldA 1 (.t 1)⟩,
     ⟨none, none, .store 3 (.t 6) (.t 5)⟩])
   (.keep [1, 2]
    (.seq
     (.ops [⟨some 7, none, .fldA 4 (.t 1)⟩,
       ⟨some 8, none, .fldA 1 (.t 7)⟩,
       ⟨some 9, none, .load false 1 (.t 8)⟩,
       ⟨some 10, none, .fldA 4 (.t 1)⟩,
       ⟨some 11, none, .fldA 1 (.t 10)⟩,
       ⟨some 12, none, .load false 1 (.t 11)⟩,
       ⟨some 13, none, .lenS (.t 12)⟩,
       ⟨some 14, none, .mm false [.t 13, .k (.int .i64 260)]⟩,
       ⟨some 15, none, .slcS 13 3 (.t 9) none (some (.t 14)) none⟩,
       ⟨some 16, none, .fldA 4 (.t 1)⟩,
       ⟨some 17, none, .fldA 1 (.t 16)⟩,
       ⟨none, none, .store 1 (.t 17) (.t 15)⟩])
     (.keep [1, 2]
      (.seq
       (.ops [⟨some 18, none, .load true 24 (.t 1)⟩,
         ⟨none, none, .store 24 (.t 2) (.t 18)⟩])
       .ret)))))) }
structure N289 (R : Env) : Prop where
  o289 : R.Fn 289 c289
  n191 : N191 R
def c296 : IFn := { np := 0, rs := [.t 0], body :=
 (.seq
  (.ops [⟨some 0, none, .mv (.k (.bool false))⟩])
  (.seq
   (.ops [⟨some 6, none, .build [.int .i64 0, .int .i64 0, .int .i64 0, .int .i64 0, .int .i64 0] [(4, 1, .k (.int .i64 258))]⟩,
     ⟨some 7, none, .build [.int .i64 0, .nils, .nils, .nils, .int .i64 0, .nils, .int .i64 0, .int .i64 0, .int .i64 0, .int .i64 0, .int .i64 0, .int .i64 0, .int .i64 0, .int .i64 0, .int .i64 0, .int .i64 0, .int .i64 0, .int .i64 0, .int .i64 0, .int .i64 0, .int .i64 0, .int .i64 0, .int .i64 0, .int .i64 0] [(0, 1, .k (.int .i64 3)), (6, 5, .t 6)]⟩,
     ⟨some 8, none, .call 301 [.t 7]⟩,
     ⟨some 5, none, .mv (.t 8)⟩,
     ⟨some 9, none, .ext (.t 5) 0⟩,
     ⟨some 10, none, .ext (.t 5) 1⟩,
     ⟨some 1, none, .mv (.t 9)⟩,
     ⟨some 2, none, .mv (.t 10)⟩])
   (.keep [1, 2]
    (.seq
     (.ops [⟨some 12, none, .build [.int .i64 0, .nils, .nils, .nils, .int .i64 0, .nils, .int .i64 0, .int .i64 0, .int .i64 0, .int .i64 0, .int .i64 0, .int .i64 0, .int .i64 0, .int .i64 0, .int .i64 0, .int .i64 0, .int .i64 0, .int .i64 0, .int .i64 0, .int .i64 0, .int .i64 0, .int .i64 0, .int .i64 0, .int .i64 0] [(0, 1, .k (.int .i64 4))]⟩,
       ⟨some 13, none, .call 301 [.t 12]⟩,
       ⟨some 11, none, .mv (.t 13)⟩,
       ⟨some 14, none, .ext (.t 11) 0⟩,
       ⟨some 15, none, .ext (.t 11) 1⟩,
       ⟨some 3, none, .mv (.t 14)⟩,
       ⟨some 4, none, .mv (.t 15)⟩])
     (.keep [1, 2, 3, 4]
      (.seq
       (.ops [⟨some 16, none, .mv (.t 2)⟩,
         ⟨some 17, none, .bin .eql (.t 16) (.k (.int .i64 0))⟩,
         ⟨some 18, none, .mv (.t 17)⟩,
         ⟨some 19, some (18, true), .mv (.t 1)⟩,
         ⟨some 20, some (18, true), .lenS (.t 19)⟩,
         ⟨some 21, some (18, true), .bin .eql (.t 20) (.k (.int .i64 9))⟩,
         ⟨some 22, none, .pick (.t 18) (.t 21) (.k (.bool false))⟩,
         ⟨some 23, none, .mv (.t 22)⟩,
         ⟨some 24, some (23, true), .mv (.t 1)⟩,
         ⟨some 25, some (23, true), .idxS 1 (.t 24) (.k (.int .i64 7))⟩,
         ⟨some 26, some (23, true), .load false 1 (.t 25)⟩,
         ⟨some 27, some (23, true), .bin .eql (.t 26) (.k (.int .u8 2))⟩,
         ⟨some 28, none, .pick (.t 23) (.t 27) (.k (.bool false))⟩,
         ⟨some 29, none, .mv (.t 28)⟩,
         ⟨some 30, some (29, true), .mv (.t 1)⟩,
         ⟨some 31, some (29, true), .idxS 1 (.t 30) (.k (.int .i64 8))⟩,
         ⟨some 32, some (29, true), .load false 1 (.t 31)⟩,
         ⟨some 33, some (29, true), .bin .eql (.t 32) (.k (.int .u8 1))⟩,
         ⟨some 34, none, .pick (.t 29) (.t 33) (.k (.bool false))⟩,
         ⟨some 35, none, .mv (.t 34)⟩,
         ⟨some 36, some (35, true), .mv (.t 4)⟩,
         ⟨some 37, some (35, true), .bin .eql (.t 36) (.k (.int .i64 0))⟩,
         ⟨some 38, none, .pick (.t 35) (.t 37) (.k (.bool false))⟩,
         ⟨some 39, none, .mv (.t 38)⟩,
         ⟨some 40, some (39, true), .mv (.t 3)⟩,
         ⟨some 41, some (39, true), .lenS (.t 40)⟩,
         ⟨some 42, some (39, true), .bin .eql (.t 41) (.k (.int .i64 31))⟩,
         ⟨some 43, none, .pick (.t 39) (.t 42) (.k (.bool false))⟩,
         ⟨some 0, none, .mv (.t 43)⟩])
       (.keep [0]
        .ret))))))) }
structure N296 (R : Env) : Prop where
  o296 : R.Fn 296 c296
  n301 : N301 R
def c288 : IFn := { np := 1, rs := [.t 2], body :=
 (.seq
  (.ops [⟨some 1, none, .box 39 (.t 0)⟩,
    ⟨some 2, none, .mv (.k (.bool false))⟩])
  (.seq
   (.ops [⟨some 3, none, .load true 24 (.t 1)⟩,
     ⟨some 4, none, .call 289 [.t 3]⟩,
     ⟨none, none, .store 24 (.t 1) (.t 4)⟩])
   (.seq
    (.draw [0, 1, 3, 0, 8, 31, 63, 127, 255, 511, 1023, 255, 2303, 8191, 16383, 32767, 65535, 131071, 262143, 131071, 1048575, 2097151, 4194303, 8388607, 16777215, 33554431, 67108863] [[1], [5], [6], [1], [8], [9], [7, 10], [11], [1], [13], [14], [1], [16], [17], [15, 18], [12, 19], [20], [1], [22], [1], [24], [23, 25], [21, 26], [27], [], [28, 29], [30]] [⟨some 5, none, .fldA 6 (.t 1)⟩,
      ⟨some 6, none, .load true 5 (.t 5)⟩,
      ⟨some 7, none, .call 290 [.t 6]⟩,
      ⟨some 8, none, .fldA 6 (.t 1)⟩,
      ⟨some 9, none, .load true 5 (.t 8)⟩,
      ⟨some 10, none, .call 291 [.t 9]⟩,
      ⟨some 11, none, .bin .eql (.t 7) (.t 10)⟩,
      ⟨some 12, none, .mv (.t 11)⟩,
      ⟨some 13, some (12, true), .fldA 11 (.t 1)⟩,
      ⟨some 14, some (12, true), .load true 13 (.t 13)⟩,
      ⟨some 15, some (12, true), .call 292 [.t 14]⟩,
      ⟨some 16, some (12, true), .fldA 11 (.t 1)⟩,
      ⟨some 17, some (12, true), .load true 13 (.t 16)⟩,
      ⟨some 18, some (12, true), .call 293 [.t 17]⟩,
      ⟨some 19, some (12, true), .bin .eql (.t 15) (.t 18)⟩,
      ⟨some 20, none, .pick (.t 12) (.t 19) (.k (.bool false))⟩,
      ⟨some 21, none, .mv (.t 20)⟩,
      ⟨some 22, some (21, true), .load true 24 (.t 1)⟩,
      ⟨some 23, some (21, true), .call 294 [.t 22]⟩,
      ⟨some 24, some (21, true), .load true 24 (.t 1)⟩,
      ⟨some 25, some (21, true), .call 295 [.t 24]⟩,
      ⟨some 26, some (21, true), .bin .eql (.t 23) (.t 25)⟩,
      ⟨some 27, none, .pick (.t 21) (.t 26) (.k (.bool false))⟩,
      ⟨some 28, none, .mv (.t 27)⟩,
      ⟨some 29, some (28, true), .call 296 []⟩,
      ⟨some 30, none, .pick (.t 28) (.t 29) (.k (.bool false))⟩,
      ⟨some 2, none, .mv (.t 30)⟩])
    (.keep [2]
     .ret)))) }
structure N288 (R : Env) : Prop where
  o288 : R.Fn 288 c288
  n289 : N289 R
  n290 : N290 R
  n291 : N291 R
  n292 : N292 R
  n293 : N293 R
  n294 : N294 R
  n295 : N295 R
  n296 : N296 R
def c297 : IFn := { np := 2, rs := [.t 4], body :=
 (.seq
  (.ops [⟨some 2, none, .box 39 (.t 0)⟩,
    ⟨some 3, none, .box 39 (.t 1)⟩,
    ⟨some 4, none, .mv (.k (.bool false))⟩])
  (.seq
   (.draw [0, 1, 0, 7, 15, 31] [[2], [5], [3], [7], [2, 6], [3, 8]] [⟨some 5, none, .load true 24 (.t 2)⟩,
     ⟨some 6, none, .call 289 [.t 5]⟩,
     ⟨some 7, none, .load true 24 (.t 3)⟩,
     ⟨some 8, none, .call 289 [.t 7]⟩,
     ⟨none, none, .store 24 (.t 2) (.t 6)⟩,
     ⟨none, none, .store 24 (.t 3) (.t 8)⟩])
   (.keep [2, 3]
    (.seq
     (.draw [0, 0, 3, 0, 0, 31, 63, 127, 255, 255, 1023, 2047, 4095, 8191, 16383, 32767] [[2], [3], [9, 10], [2], [3], [12, 13], [11, 14], [15], [2], [2], [17, 18], [16, 19], [20], [], [21, 22], [23]] [⟨some 9, none, .load true 24 (.t 2)⟩,
       ⟨some 10, none, .load true 24 (.t 3)⟩,
       ⟨some 11, none, .call 298 [.t 9, .t 10]⟩,
       ⟨some 12, none, .load true 24 (.t 2)⟩,
       ⟨some 13, none, .load true 24 (.t 3)⟩,
       ⟨some 14, none, .call 299 [.t 12, .t 13]⟩,
       ⟨some 15, none, .eqb false (.t 11) (.t 14)⟩,
       ⟨some 16, none, .mv (.t 15)⟩,
       ⟨some 17, some (16, true), .load true 24 (.t 2)⟩,
       ⟨some 18, some (16, true), .load true 24 (.t 2)⟩,
       ⟨some 19, some (16, true), .call 298 [.t 17, .t 18]⟩,
       ⟨some 20, none, .pick (.t 16) (.t 19) (.k (.bool false))⟩,
       ⟨some 21, none, .mv (.t 20)⟩,
       ⟨some 22, some (21, true), .call 296 []⟩,
       ⟨some 23, none, .pick (.t 21) (.t 22) (.k (.bool false))⟩,
       ⟨some 4, none, .mv (.t 23)⟩])
     (.keep [4]
      .ret))))) }
structure N297 (R : Env) : Prop where
  o297 : R.Fn 297 c297
  n289 : N289 R
  n296 : N296 R
  n298 : N298 R
  n299 : N299 R
def c300 : IFn := { np := 1, rs := [.t 2], body :=
 (.seq
  (.ops [⟨some 1, none, .box 39 (.t 0)⟩,
    ⟨some 2, none, .mv (.k (.bool false))⟩])
  (.seq
   (.ops [⟨some 7, none, .load true 24 (.t 1)⟩,
     ⟨some 8, none, .call 289 [.t 7]⟩,
     ⟨none, none, .store 24 (.t 1) (.t 8)⟩])
   (.seq
    (.ops [⟨some 10, none, .load true 24 (.t 1)⟩,
      ⟨some 11, none, .call 301 [.t 10]⟩,
      ⟨some 9, none, .mv (.t 11)⟩,
      ⟨some 12, none, .ext (.t 9) 0⟩,
      ⟨some 13, none, .ext (.t 9) 1⟩,
      ⟨some 3, none, .mv (.t 12)⟩,
      ⟨some 4, none, .mv (.t 13)⟩])
    (.keep [1, 3, 4]
     (.seq
      (.ops [⟨some 15, none, .load true 24 (.t 1)⟩,
        ⟨some 16, none, .call 302 [.t 15]⟩,
        ⟨some 14, none, .mv (.t 16)⟩,
        ⟨some 17, none, .ext (.t 14) 0⟩,
        ⟨some 18, none, .ext (.t 14) 1⟩,
        ⟨some 5, none, .mv (.t 17)⟩,
        ⟨some 6, none, .mv (.t 18)⟩])
      (.keep [3, 4, 5, 6]
       (.seq
        (.ops [⟨some 19, none, .mv (.t 3)⟩,
          ⟨some 20, none, .mv (.t 5)⟩,
          ⟨some 21, none, .call 47 [.t 19, .t 20]⟩,
          ⟨some 22, none, .mv (.t 21)⟩,
          ⟨some 23, some (22, true), .mv (.t 4)⟩,
          ⟨some 24, some (22, true), .mv (.t 6)⟩,
          ⟨some 25, some (22, true), .bin .eql (.t 23) (.t 24)⟩,
          ⟨some 26, none, .pick (.t 22) (.t 25) (.k (.bool false))⟩,
          ⟨some 27, none, .mv (.t 26)⟩,
          ⟨some 28, some (27, true), .call 296 []⟩,
          ⟨some 29, none, .pick (.t 27) (.t 28) (.k (.bool false))⟩,
          ⟨some 2, none, .mv (.t 29)⟩])
        (.keep [2]
         .ret)))))))) }
structure N300 (R : Env) : Prop where
  o300 : R.Fn 300 c300
  n47 : N47 R
  n289 : N289 R
  n296 : N296 R
  n301 : N301 R
  n302 : N302 R
def c303 : IFn := { np := 2, rs := [.t 4], body :=
 (.seq
  (.ops [⟨some 4, none, .mv (.k (.bool false))⟩])
  (.seq
   (.ops [⟨some 9, none, .mv (.t 1)⟩,
     ⟨some 10, none, .mv (.t 1)⟩,
     ⟨some 11, none, .lenS (.t 10)⟩,
     ⟨some 12, none, .mm false [.t 11, .k (.int .i64 900)]⟩,
     ⟨some 13, none, .slcS 4 1 (.t 9) none (some (.t 12)) none⟩,
     ⟨some 1, none, .mv (.t 13)⟩])
   (.keep [0, 1]
    (.seq
     (.ops [⟨some 15, none, .mv (.t 0)⟩,
       ⟨some 16, none, .mv (.t 1)⟩,
       ⟨some 17, none, .call 304 [.t 15, .t 16]⟩,
       ⟨some 14, none, .mv (.t 17)⟩,
       ⟨some 18, none, .ext (.t 14) 0⟩,
       ⟨some 19, none, .ext (.t 14) 1⟩,
       ⟨some 5, none, .alloc 39 [.int .i64 0, .nils, .nils, .nils, .int .i64 0, .nils, .int .i64 0, .int .i64 0, .int .i64 0, .int .i64 0, .int .i64 0, .int .i64 0, .int .i64 0, .int .i64 0, .int .i64 0, .int .i64 0, .int .i64 0, .int .i64 0, .int .i64 0, .int .i64 0, .int .i64 0, .int .i64 0, .int .i64 0, .int .i64 0]⟩,
       ⟨none, none, .store 24 (.t 5) (.t 18)⟩,
       ⟨some 6, none, .mv (.t 19)⟩])
     (.keep [0, 1, 5, 6]
      (.seq
       (.ops [⟨some 21, none, .mv (.t 0)⟩,
         ⟨some 22, none, .mv (.t 1)⟩,
         ⟨some 23, none, .call 305 [.t 21, .t 22]⟩,
         ⟨some 20, none, .mv (.t 23)⟩,
         ⟨some 24, none, .ext (.t 20) 0⟩,
         ⟨some 25, none, .ext (.t 20) 1⟩,
         ⟨some 7, none, .alloc 39 [.int .i64 0, .nils, .nils, .nils, .int .i64 0, .nils, .int .i64 0, .int .i64 0, .int .i64 0, .int .i64 0, .int .i64 0, .int .i64 0, .int .i64 0, .int .i64 0, .int .i64 0, .int .i64 0, .int .i64 0, .int .i64 0, .int .i64 0, .int .i64 0, .int .i64 0, .int .i64 0, .int .i64 0, .int .i64 0]⟩,
         ⟨none, none, .store 24 (.t 7) (.t 24)⟩,
         ⟨some 8, none, .mv (.t 25)⟩])
       (.keep [5, 6, 7, 8]
        (.seq
         (.ops [⟨some 26, none, .load true 24 (.t 5)⟩,
           ⟨some 27, none, .load true 24 (.t 7)⟩,
           ⟨some 28, none, .call 299 [.t 26, .t 27]⟩,
           ⟨some 29, none, .mv (.t 28)⟩,
           ⟨some 30, some (29, true), .mv (.t 6)⟩,
           ⟨some 31, some (29, true), .mv (.t 8)⟩,
           ⟨some 32, some (29, true), .bin .eql (.t 30) (.t 31)⟩,
           ⟨some 33, none, .pick (.t 29) (.t 32) (.k (.bool false))⟩,
           ⟨some 34, none, .mv (.t 33)⟩,
           ⟨some 35, some (34, true), .call 296 []⟩,
           ⟨some 36, none, .pick (.t 34) (.t 35) (.k (.bool false))⟩,
           ⟨some 4, none, .mv (.t 36)⟩])
         (.keep [4]
          .ret))))))))) }
structure N303 (R : Env) : Prop where
  o303 : R.Fn 303 c303
  n296 : N296 R
  n299 : N299 R
  n304 : N304 R
  n305 : N305 R
def c306 : IFn := { np := 3, rs := [.t 6], body :=
 (.seq
  (.ops [⟨some 3, none, .box 39 (.t 0)⟩,
    ⟨some 6, none, .mv (.k (.bool false))⟩])
  (.seq
   (.draw [0, 1, 0, 0, 8, 24, 60, 3, 255] [[3], [15], [2], [2], [18], [19], [17, 20], [3, 16], [21]] [⟨some 15, none, .load true 24 (.t 3)⟩,
     ⟨some 16, none, .call 289 [.t 15]⟩,
     ⟨some 17, none, .mv (.t 2)⟩,
     ⟨some 18, none, .mv (.t 2)⟩,
     ⟨some 19, none, .lenS (.t 18)⟩,
     ⟨some 20, none, .mm false [.t 19, .k (.int .i64 900)]⟩,
     ⟨some 21, none, .slcS 4 1 (.t 17) none (some (.t 20)) none⟩,
     ⟨none, none, .store 24 (.t 3) (.t 16)⟩,
     ⟨some 2, none, .mv (.t 21)⟩])
   (.keep [1, 2, 3]
    (.seq
     (.seq
      (.ops [⟨some 23, none, .load true 24 (.t 3)⟩,
        ⟨some 24, none, .call 301 [.t 23]⟩,
        ⟨some 22, none, .mv (.t 24)⟩,
        ⟨some 25, none, .ext (.t 22) 0⟩,
        ⟨some 26, none, .ext (.t 22) 1⟩,
        ⟨some 7, none, .mv (.t 25)⟩,
        ⟨some 8, none, .mv (.t 26)⟩])
      (.keep [1, 2, 3, 7, 8]
       (.seq
        (.ops [⟨some 27, none, .mv (.t 8)⟩,
          ⟨some 28, none, .bin .eql (.t 27) (.k (.int .i64 0))⟩])
        (.cond (.t 28)
         (.seq
          (.ops [⟨some 30, none, .fldA 0 (.t 3)⟩,
            ⟨some 31, none, .load false 1 (.t 30)⟩,
            ⟨some 32, none, .mv (.t 7)⟩,
            ⟨some 33, none, .call 304 [.t 31, .t 32]⟩,
            ⟨some 29, none, .mv (.t 33)⟩,
            ⟨some 34, none, .ext (.t 29) 0⟩,
            ⟨some 35, none, .ext (.t 29) 1⟩,
            ⟨some 9, none, .alloc 39 [.int .i64 0, .nils, .nils, .nils, .int .i64 0, .nils, .int .i64 0, .int .i64 0, .int .i64 0, .int .i64 0, .int .i64 0, .int .i64 0, .int .i64 0, .int .i64 0, .int .i64 0, .int .i64 0, .int .i64 0, .int .i64 0, .int .i64 0, .int .i64 0, .int .i64 0, .int .i64 0, .int .i64 0, .int .i64 0]⟩,
            ⟨none, none, .store 24 (.t 9) (.t 34)⟩,
            ⟨some 10, none, .mv (.t 35)⟩])
          (.keep [1, 2, 3, 7, 9, 10]
           (.seq
            (.ops [⟨some 36, none, .mv (.t 10)⟩,
              ⟨some 37, none, .bin .neq (.t 36) (.k (.int .i64 0))⟩,
              ⟨some 38, none, .mv (.t 37)⟩,
              ⟨some 39, some (38, false), .load true 24 (.t 3)⟩,
              ⟨some 40, some (38, false), .load true 24 (.t 9)⟩,
              ⟨some 41, some (38, false), .call 298 [.t 39, .t 40]⟩,
              ⟨some 42, some (38, false), .un .not (.t 41)⟩,
              ⟨some 43, none, .pick (.t 38) (.k (.bool true)) (.t 42)⟩,
              ⟨some 44, none, .mv (.t 43)⟩,
              ⟨some 45, some (44, false), .mv (.t 7)⟩,
              ⟨some 46, some (44, false), .lenS (.t 45)⟩,
              ⟨some 47, some (44, false), .fldA 0 (.t 3)⟩,
              ⟨some 48, some (44, false), .load false 1 (.t 47)⟩,
              ⟨some 49, some (44, false), .call 37 [.t 48]⟩,
              ⟨some 50, some (44, false), .bin .gtr (.t 46) (.t 49)⟩,
              ⟨some 51, none, .pick (.t 44) (.k (.bool true)) (.t 50)⟩,
              ⟨some 52, none, .mv (.t 51)⟩,
              ⟨some 53, some (52, false), .mv (.t 7)⟩,
              ⟨some 54, some (52, false), .lenS (.t 53)⟩,
              ⟨some 55, some (52, false), .bin .eql (.t 54) (.k (.int .i64 0))⟩,
              ⟨some 56, none, .pick (.t 52) (.k (.bool true)) (.t 55)⟩])
            (.keep [1, 2, 56]
             (.cond (.t 56)
              (.seq
               (.ops [⟨some 6, none, .mv (.k (.bool false))⟩])
               .ret)
              .skip)))))
         .skip))))
     (.keep [1, 2]
      (.seq
       (.ops [⟨some 58, none, .mv (.t 1)⟩,
         ⟨some 59, none, .mv (.t 2)⟩,
         ⟨some 60, none, .call 304 [.t 58, .t 59]⟩,
         ⟨some 57, none, .mv (.t 60)⟩,
         ⟨some 61, none, .ext (.t 57) 0⟩,
         ⟨some 62, none, .ext (.t 57) 1⟩,
         ⟨some 11, none, .alloc 39 [.int .i64 0, .nils, .nils, .nils, .int .i64 0, .nils, .int .i64 0, .int .i64 0, .int .i64 0, .int .i64 0, .int .i64 0, .int .i64 0, .int .i64 0, .int .i64 0, .int .i64 0, .int .i64 0, .int .i64 0, .int .i64 0, .int .i64 0, .int .i64 0, .int .i64 0, .int .i64 0, .int .i64 0, .int .i64 0]⟩,
         ⟨none, none, .store 24 (.t 11) (.t 61)⟩,
         ⟨some 12, none, .mv (.t 62)⟩])
       (.keep [1, 2, 11, 12]
        (.seq
         (.seq
          (.ops [⟨some 63, none, .mv (.t 12)⟩,
            ⟨some 64, none, .bin .neq (.t 63) (.k (.int .i64 0))⟩])
          (.cond (.t 64)
           (.seq
            (.ops [⟨some 65, none, .load true 24 (.t 11)⟩,
              ⟨some 66, none, .build [.int .i64 0, .nils, .nils, .nils, .int .i64 0, .nils, .int .i64 0, .int .i64 0, .int .i64 0, .int .i64 0, .int .i64 0, .int .i64 0, .int .i64 0, .int .i64 0, .int .i64 0, .int .i64 0, .int .i64 0, .int .i64 0, .int .i64 0, .int .i64 0, .int .i64 0, .int .i64 0, .int .i64 0, .int .i64 0] []⟩,
              ⟨some 67, none, .call 298 [.t 65, .t 66]⟩,
              ⟨some 68, none, .mv (.t 67)⟩,
              ⟨some 69, some (68, true), .call 296 []⟩,
              ⟨some 70, none, .pick (.t 68) (.t 69) (.k (.bool false))⟩,
              ⟨some 6, none, .mv (.t 70)⟩])
            (.keep [6]
             .ret))
           .skip))
         (.keep [1, 2, 11]
          (.seq
           (.ops [⟨some 72, none, .load true 24 (.t 11)⟩,
             ⟨some 73, none, .call 301 [.t 72]⟩,
             ⟨some 71, none, .mv (.t 73)⟩,
             ⟨some 74, none, .ext (.t 71) 0⟩,
             ⟨some 75, none, .ext (.t 71) 1⟩,
             ⟨some 13, none, .mv (.t 74)⟩,
             ⟨some 14, none, .mv (.t 75)⟩])
           (.keep [1, 2, 11, 13, 14]
            (.seq
             (.ops [⟨some 76, none, .mv (.t 14)⟩,
               ⟨some 77, none, .bin .eql (.t 76) (.k (.int .i64 0))⟩,
               ⟨some 78, none, .mv (.t 77)⟩,
               ⟨some 79, some (78, true), .mv (.t 2)⟩,
               ⟨some 80, some (78, true), .mv (.t 13)⟩,
               ⟨some 81, some (78, true), .call 47 [.t 79, .t 80]⟩,
               ⟨some 82, none, .pick (.t 78) (.t 81) (.k (.bool false))⟩,
               ⟨some 83, none, .mv (.t 82)⟩,
               ⟨some 84, some (83, true), .fldA 0 (.t 11)⟩,
               ⟨some 85, some (83, true), .load false 1 (.t 84)⟩,
               ⟨some 86, some (83, true), .mv (.t 1)⟩,
               ⟨some 87, some (83, true), .bin .eql (.t 85) (.t 86)⟩,
               ⟨some 88, none, .pick (.t 83) (.t 87) (.k (.bool false))⟩,
               ⟨some 89, none, .mv (.t 88)⟩,
               ⟨some 90, some (89, true), .call 296 []⟩,
               ⟨some 91, none, .pick (.t 89) (.t 90) (.k (.bool false))⟩,
               ⟨some 6, none, .mv (.t 91)⟩])
             (.keep [6]
              .ret))))))))))))) }
structure N306 (R : Env) : Prop where
  o306 : R.Fn 306 c306
  n37 : N37 R
  n47 : N47 R
  n289 : N289 R
  n296 : N296 R
  n298 : N298 R
  n301 : N301 R
  n304 : N304 R
end Go.UM

namespace Go.UM
open Go.AM
def u8 (n : Int) : UInt8 := UInt8.ofNat (n % 256).toNat
theorem wr_u8 (n : Int) : wr .u8 n = ((u8 n).toNat : Int) := by
  have h1 : 0 ≤ n % 256 := Int.emod_nonneg _ (by decide)
  have h2 : n % 256 < 256 := Int.emod_lt_of_pos _ (by decide)
  simp only [wr, IntKind.wrap, IntKind.bits, IntKind.signed, u8]
  simp
  omega
theorem u8_mod (n : Int) : u8 (n % 256) = u8 n := by unfold u8; rw [Int.emod_emod_of_dvd n (Int.dvd_refl 256)]
theorem u8_tmod {n : Int} (h : 0 ≤ n) : u8 (n.tmod 256) = u8 n := by rw [Int.tmod_eq_emod_of_nonneg h, u8_mod]
theorem u8_toNat (c : UInt8) : u8 (c.toNat : Int) = c := by
  have := c.toNat_lt
  unfold u8
  rw [show ((c.toNat : Int) % 256).toNat = c.toNat by omega]
  simp
theorem u8_in {n : Int} (h : 0 ≤ n ∧ n ≤ 255) : ((u8 n).toNat : Int) = n := by rw [← wr_u8, wr_in (k := .u8) h]
def slc8 (l : List UInt8) : List (List AV) := l.map fun c => [.int .u8 c.toNat]
def slcK (k : IntKind) (l : List Int) : List (List AV) := l.map fun x => [.int k x]
@[simp] theorem slc8_nil : slc8 [] = [] := rfl
@[simp] theorem slc8_length (l : List UInt8) : (slc8 l).length = l.length := by simp [slc8]
@[simp] theorem slc8_append (a b : List UInt8) : slc8 (a ++ b) = slc8 a ++ slc8 b := by simp [slc8]
@[simp] theorem slc8_one (n : Int) : [[AV.int .u8 (wr .u8 n)]] = slc8 [u8 n] := by simp [slc8, wr_u8]
@[simp] theorem slcK_nil (k : IntKind) : slcK k [] = [] := rfl
@[simp] theorem slcK_length (k : IntKind) (l : List Int) : (slcK k l).length = l.length := by simp [slcK]
@[simp] theorem slcK_append (k : IntKind) (a b : List Int) : slcK k (a ++ b) = slcK k a ++ slcK k b := by simp [slcK]
theorem slcK_one (k : IntKind) (n : Int) : [[AV.int k n]] = slcK k [n] := rfl
@[simp] theorem slc8_NmL (l : List UInt8) : NmL (slc8 l) := by simp [slc8]
@[simp] theorem slcK_NmL (k : IntKind) (l : List Int) : NmL (slcK k l) := by simp [slcK]
@[simp] theorem slc8_FlL (l : List UInt8) : FlL (slc8 l) := by simp [slc8]
@[simp] theorem slcK_FlL (k : IntKind) (l : List Int) : FlL (slcK k l) := by simp [slcK]
instance {l : List UInt8} : LenOf (slc8 l) l.length := ⟨slc8_length l⟩
instance {k : IntKind} {l : List Int} : LenOf (slcK k l) l.length := ⟨slcK_length k l⟩
@[simp] theorem mem_slc8 {e : List AV} {l : List UInt8} : e ∈ slc8 l ↔ ∃ c, c ∈ l ∧ [AV.int .u8 c.toNat] = e := by simp [slc8]
@[simp] theorem mem_slcK {k : IntKind} {e : List AV} {l : List Int} : e ∈ slcK k l ↔ ∃ c, c ∈ l ∧ [AV.int k c] = e := by simp [slcK]
theorem slc8_take (l : List UInt8) (k : Nat) : (slc8 l).take k = slc8 (l.take k) := by simp [slc8, List.map_take]
theorem slc8_drop (l : List UInt8) (k : Nat) : (slc8 l).drop k = slc8 (l.drop k) := by simp [slc8, List.map_drop]
theorem slcK_take (k' : IntKind) (l : List Int) (k : Nat) : (slcK k' l).take k = slcK k' (l.take k) := by simp [slcK, List.map_take]
theorem slcK_drop (k' : IntKind) (l : List Int) (k : Nat) : (slcK k' l).drop k = slcK k' (l.drop k) := by simp [slcK, List.map_drop]
theorem slc8_inj {a b : List UInt8} (h : slc8 a = slc8 b) : a = b := by
  have := congrArg (List.map fun e : List AV => match e with | [.int _ n] => u8 n | _ => 0) h
  simpa [slc8, List.map_map, Function.comp_def, u8_toNat] using this
theorem get8 {l : List UInt8} {i : Nat} {x : UInt8} (h : l[i]? = some x) {K : List AV → Prop} (k : K [.int .u8 x.toNat]) : EGet (slc8 l) i K := eget_map h k
theorem getK {kk : IntKind} {l : List Int} {i : Nat} {x : Int} (h : l[i]? = some x) {K : List AV → Prop} (k : K [.int kk x]) : EGet (slcK kk l) i K := eget_map h k
theorem take_succ_get {α : Type} {l : List α} {k : Nat} {x : α} (h : l[k]? = some x) : l.take (k + 1) = l.take k ++ [x] := by
  rw [List.take_add_one, h]; rfl
theorem shr_eq {k : IntKind} {x y : Int} (hx : 0 ≤ x) : shrI k x y = x / 2 ^ (min y.toNat k.bits) := by
  unfold shrI
  rw [Int.fdiv_eq_ediv_of_nonneg]
  exact Int.le_of_lt (Int.pow_pos (by decide))
theorem aS8 {s : List UInt8} {K : List UInt8 → Prop} (k : K s) : AStr (slc8 s) K := ⟨⟨s, rfl, k⟩⟩
theorem take_cap {α : Type} (l : List α) (m : Int) : l.take (min (l.length : Int) m).toNat = l.take m.toNat := by
  by_cases h : (l.length : Int) ≤ m
  · rw [show (min (l.length : Int) m).toNat = l.length by omega, List.take_of_length_le (Nat.le_refl _), List.take_of_length_le (by omega)]
  · rw [show (min (l.length : Int) m).toNat = m.toNat by omega]
theorem cap8 (b : List UInt8) (m : Int) : (slc8 b).take (min (b.length : Int) m).toNat = slc8 (b.take m.toNat) := by rw [slc8_take, take_cap]
theorem capK (k : IntKind) (b : List Int) (m : Int) : (slcK k b).take (min (b.length : Int) m).toNat = slcK k (b.take m.toNat) := by rw [slcK_take, take_cap]
instance {l : List UInt8} {k : Nat} : TkOf ((slc8 l).take k) (slc8 (l.take k)) := ⟨slc8_take l k⟩
instance {l : List UInt8} {k : Nat} : TkOf ((slc8 l).drop k) (slc8 (l.drop k)) := ⟨slc8_drop l k⟩
instance {l : List UInt8} {k j : Nat} : TkOf (((slc8 l).take k).drop j) (slc8 ((l.take k).drop j)) := ⟨by rw [slc8_take, slc8_drop]⟩
instance {kk : IntKind} {l : List Int} {k : Nat} : TkOf ((slcK kk l).take k) (slcK kk (l.take k)) := ⟨slcK_take kk l k⟩
instance {kk : IntKind} {l : List Int} {k : Nat} : TkOf ((slcK kk l).drop k) (slcK kk (l.drop k)) := ⟨slcK_drop kk l k⟩
instance {kk : IntKind} {l : List Int} {k j : Nat} : TkOf (((slcK kk l).take k).drop j) (slcK kk ((l.take k).drop j)) := ⟨by rw [slcK_take, slcK_drop]⟩
end Go.UM

namespace Go.UM
open Go.AM
structure T3 where
  (a b c : Int)
def z3 : T3 := ⟨0, 0, 0⟩
def t3 (x : T3) : List AV := [.int .i64 x.a, .int .i64 x.b, .int .i64 x.c]
def slc3 (l : List T3) : List (List AV) := l.map t3
@[simp] theorem slc3_nil : slc3 [] = [] := rfl
@[simp] theorem slc3_length (l : List T3) : (slc3 l).length = l.length := by simp [slc3]
@[simp] theorem slc3_append (a b : List T3) : slc3 (a ++ b) = slc3 a ++ slc3 b := by simp [slc3]
@[simp] theorem slc3_NmL (l : List T3) : NmL (slc3 l) := by simp [slc3, t3]
@[simp] theorem slc3_FlL (l : List T3) : FlL (slc3 l) := by simp [slc3, t3]
theorem slc3_take (l : List T3) (k : Nat) : (slc3 l).take k = slc3 (l.take k) := by simp [slc3, List.map_take]
theorem slc3_drop (l : List T3) (k : Nat) : (slc3 l).drop k = slc3 (l.drop k) := by simp [slc3, List.map_drop]
instance {l : List T3} : LenOf (slc3 l) l.length := ⟨slc3_length l⟩
instance {l : List T3} {k : Nat} : TkOf ((slc3 l).take k) (slc3 (l.take k)) := ⟨slc3_take l k⟩
instance {l : List T3} {k : Nat} : TkOf ((slc3 l).drop k) (slc3 (l.drop k)) := ⟨slc3_drop l k⟩
end Go.UM

namespace Go.UM
open Go.AM
set_option maxRecDepth 4000
def p2 (x : Int × Int) : List AV := [.int .i64 x.1, .int .i64 x.2]
def slc2 (l : List (Int × Int)) : List (List AV) := l.map p2
@[simp] theorem slc2_nil : slc2 [] = [] := rfl
@[simp] theorem slc2_length (l : List (Int × Int)) : (slc2 l).length = l.length := by simp [slc2]
@[simp] theorem slc2_append (a b : List (Int × Int)) : slc2 (a ++ b) = slc2 a ++ slc2 b := by simp [slc2]
@[simp] theorem slc2_NmL (l : List (Int × Int)) : NmL (slc2 l) := by simp [slc2, p2]
@[simp] theorem slc2_FlL (l : List (Int × Int)) : FlL (slc2 l) := by simp [slc2, p2]
theorem slc2_take (l : List (Int × Int)) (k : Nat) : (slc2 l).take k = slc2 (l.take k) := by simp [slc2, List.map_take]
instance {l : List (Int × Int)} : LenOf (slc2 l) l.length := ⟨slc2_length l⟩
instance {l : List (Int × Int)} {k : Nat} : TkOf ((slc2 l).take k) (slc2 (l.take k)) := ⟨slc2_take l k⟩
structure Ms where
  v : List T3
  uv : List (Int × Int)
  t : List T3
def Ms.row (m : Ms) : List AV := [.isl 3 (slc3 m.v), .isl 2 (slc2 m.uv), .isl 3 (slc3 m.t)]
def off3 (p : T3) : Bool := !(decide (-4096 ≤ p.a ∧ p.a ≤ 4096 ∧ -4096 ≤ p.b ∧ p.b ≤ 4096 ∧ -4096 ≤ p.c ∧ p.c ≤ 4096))
def bad2 (x : Int × Int) : Bool := !(decide (0 ≤ x.1 ∧ x.1 ≤ 65535 ∧ 0 ≤ x.2 ∧ x.2 ≤ 65535))
def badT (n : Nat) (t : T3) : Bool := !(decide (0 ≤ t.a ∧ t.a < n ∧ 0 ≤ t.b ∧ t.b < n ∧ 0 ≤ t.c ∧ t.c < n ∧ t.a ≠ t.b ∧ t.b ≠ t.c ∧ t.c ≠ t.a))
def mchk (m : Ms) : Int :=
  if 64 < m.v.length ∨ 64 < m.t.length then 3
  else if m.v.length = 0 ∨ m.t.length = 0 ∨ m.uv.length ≠ m.v.length then 5
  else if m.v.any off3 = true then 8
  else if m.uv.any bad2 = true ∨ m.t.any (badT m.v.length) = true then 5 else 0
def fidx {α : Type} (l : List α) (p : α → Bool) : Int := if l.any p = true then (l.findIdx p : Int) else -1
theorem fidx_at {α : Type} {p : α → Bool} {x : α} : ∀ {l : List α} {i : Nat}, l[i]? = some x → p x = true → (l.take i).any p = false → l.findIdx p = i
  | [], _, h, _, _ => by simp at h
  | a :: r, 0, h, hp, _ => by simp at h; subst h; simp [List.findIdx_cons, hp]
  | a :: r, i + 1, h, hp, hn => by
    simp only [List.take_succ_cons, List.any_cons, Bool.or_eq_false_iff] at hn
    rw [List.findIdx_cons, hn.1, fidx_at (l := r) (i := i) (by simpa using h) hp hn.2]
    rfl
theorem any_at {α : Type} {p : α → Bool} {l : List α} {i : Nat} {x : α} (h : l[i]? = some x) (hp : p x = true) : l.any p = true := List.any_eq_true.2 ⟨x, List.mem_of_getElem? h, hp⟩
theorem any_take_succ' {α : Type} {l : List α} {k : Nat} {x : α} {p : α → Bool} (h : l[k]? = some x) : (l.take (k + 1)).any p = ((l.take k).any p || p x) := by
  rw [take_succ_get h]; simp
theorem fidx_ge {α : Type} {l : List α} {p : α → Bool} : decide (fidx l p ≥ 0) = l.any p := by
  unfold fidx
  split
  · rename_i h; rw [h]; simp
  · rename_i h; simp at h ⊢; exact h
theorem idx217_c {R : Env} (h : N217 R) (g : Nat) (hb : HasBody R.P (R.ft g)) (l : List T3) (p : T3 → Bool) (hc : ∀ x ∈ l, R.Pc g [.agg (t3 x)] (.bool (p x))) (hl : l.length ≤ 1073741824) : R.Pc 217 [.isl 3 (slc3 l), R.cl g []] (.int .i64 (fidx l p)) :=
  h.o217.enter 100 rfl fun X bb hfit hp => by
    refine sh ?_
    refine lPa 100 (fun i : Nat => i ≤ l.length ∧ (l.take i).any p = false) (fun i => ⟨[(0, .isl 3 (slc3 l)), (1, R.cl g []), (7, .int .i64 l.length), (8, .int .i64 i)], [], 0⟩) (fun i => l.length - i) (0) ?_ ?_
    · exact ⟨Nat.zero_le _, by simp⟩
    · intro i hi
      dsimp only
      refine sh ?_
      refine cS (fun h1 => ?_) (fun h1 => ?_)
      · obtain ⟨x, hx⟩ : ∃ u_, l[i]? = some u_ := ⟨_, List.getElem?_eq_getElem (by first | omega | (simp <;> omega))⟩
        refine sh ?_
        refine eget_map hx ?_
        refine sh ?_
        refine ICall.pure hb (hc x (List.mem_of_getElem? hx)) rfl ?_
        refine sh ?_
        refine cS (fun h2 => ?_) (fun h2 => ?_)
        · refine sh ?_
          refine rT ?_
          all_goals repeat' (first | exact True.intro | refine And.intro ?_ ?_ | (intro _u; clear _u) | (with_reducible first | refine eM ?_ ?_ | refine eF ?_ ?_ ?_ | refine eN ?_ | refine eL ?_ ?_ ?_ | refine eA ?_ ?_ | refine IWk.mk ⟨_, hp, rfl⟩ ?_ ?_) | refine IWk.mk ⟨_, hp, rfl⟩ ?_ ?_)
          all_goals first | with_reducible rfl | omega | exact Or.inl (by decide) | (simp; done) | rfl | skip
          unfold fidx
          rw [if_pos (any_at hx h2), fidx_at hx h2 hi.2]
        · refine sh ?_
          refine nXa (i + 1) ?_ ?_
          · refine ⟨by omega, ?_⟩
            rw [any_take_succ' hx, hi.2, h2]; rfl
          · omega
      · refine sh ?_
        refine rT ?_
        all_goals repeat' (first | exact True.intro | refine And.intro ?_ ?_ | (intro _u; clear _u) | (with_reducible first | refine eM ?_ ?_ | refine eF ?_ ?_ ?_ | refine eN ?_ | refine eL ?_ ?_ ?_ | refine eA ?_ ?_ | refine IWk.mk ⟨_, hp, rfl⟩ ?_ ?_) | refine IWk.mk ⟨_, hp, rfl⟩ ?_ ?_)
        all_goals first | with_reducible rfl | omega | exact Or.inl (by decide) | (simp; done) | rfl | skip
        unfold fidx
        have h3 := hi.2
        rw [List.take_of_length_le (by omega)] at h3
        rw [if_neg (by simp [h3])]
theorem cont209_c {R : Env} (h : N209 R) (g : Nat) (hb : HasBody R.P (R.ft g)) (l : List T3) (p : T3 → Bool) (hc : ∀ x ∈ l, R.Pc g [.agg (t3 x)] (.bool (p x))) (hl : l.length ≤ 1073741824) : R.Pc 209 [.isl 3 (slc3 l), R.cl g []] (.bool (l.any p)) :=
  h.o209.enter 100 rfl fun X bb hfit hp => by
    refine sh ?_
    refine ICall.pure h.n217.o217.hb (idx217_c h.n217 g hb l p hc hl) rfl ?_
    refine sh ?_
    refine rT ?_
    all_goals repeat' (first | exact True.intro | refine And.intro ?_ ?_ | (intro _u; clear _u) | (with_reducible first | refine eM ?_ ?_ | refine eF ?_ ?_ ?_ | refine eN ?_ | refine eL ?_ ?_ ?_ | refine eA ?_ ?_ | refine IWk.mk ⟨_, hp, rfl⟩ ?_ ?_) | refine IWk.mk ⟨_, hp, rfl⟩ ?_ ?_)
    all_goals first | with_reducible rfl | omega | exact Or.inl (by decide) | (simp; done) | rfl | skip
    exact fidx_ge
theorem idx218_c {R : Env} (h : N218 R) (g : Nat) (hb : HasBody R.P (R.ft g)) (l : List (Int × Int)) (p : Int × Int → Bool) (hc : ∀ x ∈ l, R.Pc g [.agg (p2 x)] (.bool (p x))) (hl : l.length ≤ 1073741824) : R.Pc 218 [.isl 2 (slc2 l), R.cl g []] (.int .i64 (fidx l p)) :=
  h.o218.enter 100 rfl fun X bb hfit hp => by
    refine sh ?_
    refine lPa 100 (fun i : Nat => i ≤ l.length ∧ (l.take i).any p = false) (fun i => ⟨[(0, .isl 2 (slc2 l)), (1, R.cl g []), (7, .int .i64 l.length), (8, .int .i64 i)], [], 0⟩) (fun i => l.length - i) (0) ?_ ?_
    · exact ⟨Nat.zero_le _, by simp⟩
    · intro i hi
      dsimp only
      refine sh ?_
      refine cS (fun h1 => ?_) (fun h1 => ?_)
      · obtain ⟨x, hx⟩ : ∃ u_, l[i]? = some u_ := ⟨_, List.getElem?_eq_getElem (by first | omega | (simp <;> omega))⟩
        refine sh ?_
        refine eget_map hx ?_
        refine sh ?_
        refine ICall.pure hb (hc x (List.mem_of_getElem? hx)) rfl ?_
        refine sh ?_
        refine cS (fun h2 => ?_) (fun h2 => ?_)
        · refine sh ?_
          refine rT ?_
          all_goals repeat' (first | exact True.intro | refine And.intro ?_ ?_ | (intro _u; clear _u) | (with_reducible first | refine eM ?_ ?_ | refine eF ?_ ?_ ?_ | refine eN ?_ | refine eL ?_ ?_ ?_ | refine eA ?_ ?_ | refine IWk.mk ⟨_, hp, rfl⟩ ?_ ?_) | refine IWk.mk ⟨_, hp, rfl⟩ ?_ ?_)
          all_goals first | with_reducible rfl | omega | exact Or.inl (by decide) | (simp; done) | rfl | skip
          unfold fidx
          rw [if_pos (any_at hx h2), fidx_at hx h2 hi.2]
        · refine sh ?_
          refine nXa (i + 1) ?_ ?_
          · refine ⟨by omega, ?_⟩
            rw [any_take_succ' hx, hi.2, h2]; rfl
          · omega
      · refine sh ?_
        refine rT ?_
        all_goals repeat' (first | exact True.intro | refine And.intro ?_ ?_ | (intro _u; clear _u) | (with_reducible first | refine eM ?_ ?_ | refine eF ?_ ?_ ?_ | refine eN ?_ | refine eL ?_ ?_ ?_ | refine eA ?_ ?_ | refine IWk.mk ⟨_, hp, rfl⟩ ?_ ?_) | refine IWk.mk ⟨_, hp, rfl⟩ ?_ ?_)
        all_goals first | with_reducible rfl | omega | exact Or.inl (by decide) | (simp; done) | rfl | skip
        unfold fidx
        have h3 := hi.2
        rw [List.take_of_length_le (by omega)] at h3
        rw [if_neg (by simp [h3])]
theorem cont210_c {R : Env} (h : N210 R) (g : Nat) (hb : HasBody R.P (R.ft g)) (l : List (Int × Int)) (p : Int × Int → Bool) (hc : ∀ x ∈ l, R.Pc g [.agg (p2 x)] (.bool (p x))) (hl : l.length ≤ 1073741824) : R.Pc 210 [.isl 2 (slc2 l), R.cl g []] (.bool (l.any p)) :=
  h.o210.enter 100 rfl fun X bb hfit hp => by
    refine sh ?_
    refine ICall.pure h.n218.o218.hb (idx218_c h.n218 g hb l p hc hl) rfl ?_
    refine sh ?_
    refine rT ?_
    all_goals repeat' (first | exact True.intro | refine And.intro ?_ ?_ | (intro _u; clear _u) | (with_reducible first | refine eM ?_ ?_ | refine eF ?_ ?_ ?_ | refine eN ?_ | refine eL ?_ ?_ ?_ | refine eA ?_ ?_ | refine IWk.mk ⟨_, hp, rfl⟩ ?_ ?_) | refine IWk.mk ⟨_, hp, rfl⟩ ?_ ?_)
    all_goals first | with_reducible rfl | omega | exact Or.inl (by decide) | (simp; done) | rfl | skip
    exact fidx_ge
def msM (R : Env) (m : Ms) : IMem := [(0, .var (R.ty 25) m.row)]
theorem idx219_c {R : Env} (h : N219 R) (g : Nat) (l : List T3) (p : T3 → Bool) (m : Ms) (hc : ∀ x ∈ l, R.Mc g [.agg (t3 x), .loc 0 1 0 0] (msM R m) (.bool (p x)) (msM R m) 1) (hl : l.length ≤ 1073741824) :
    R.Mc 219 [.isl 3 (slc3 l), R.cl g [.loc 0 1 0 0]] (msM R m) (.int .i64 (fidx l p)) (msM R m) 1 :=
  h.o219.enterM 100 1 rfl rfl rfl fun X bb hfit hp => by
    refine sh ?_
    refine lPa 100 (fun i : Nat => i ≤ l.length ∧ (l.take i).any p = false) (fun i => ⟨[(0, .isl 3 (slc3 l)), (1, R.cl g [.loc 0 1 0 0]), (7, .int .i64 l.length), (8, .int .i64 i)], msM R m, 1⟩) (fun i => l.length - i) (0) ?_ ?_
    · exact ⟨Nat.zero_le _, by simp⟩
    · intro i hi
      dsimp only
      refine sh ?_
      refine cS (fun h1 => ?_) (fun h1 => ?_)
      · obtain ⟨x, hx⟩ : ∃ u_, l[i]? = some u_ := ⟨_, List.getElem?_eq_getElem (by first | omega | (simp <;> omega))⟩
        refine sh ?_
        refine eget_map hx ?_
        refine sh ?_
        refine cM false [0] (hc x (List.mem_of_getElem? hx)) ?_
        repeat ((intro _u; clear _u); first | refine eK ?_ | refine eP ?_)
        refine sh ?_
        refine cS (fun h2 => ?_) (fun h2 => ?_)
        · refine sh ?_
          refine rM [0] ?_
          all_goals repeat' (first | exact True.intro | refine And.intro ?_ ?_ | (intro _u; clear _u) | (with_reducible first | refine eM ?_ ?_ | refine eF ?_ ?_ ?_ | refine eN ?_ | refine eL ?_ ?_ ?_ | refine eA ?_ ?_ | refine IWk.mk ⟨_, hp, rfl⟩ ?_ ?_) | refine IWk.mk ⟨_, hp, rfl⟩ ?_ ?_)
          all_goals first | with_reducible rfl | omega | exact Or.inl (by decide) | (simp; done) | rfl | skip
          unfold fidx
          rw [if_pos (any_at hx h2), fidx_at hx h2 hi.2]
        · refine sh ?_
          refine nXa (i + 1) ?_ ?_
          · refine ⟨by omega, ?_⟩
            rw [any_take_succ' hx, hi.2, h2]; rfl
          · omega
      · refine sh ?_
        refine rM [0] ?_
        all_goals repeat' (first | exact True.intro | refine And.intro ?_ ?_ | (intro _u; clear _u) | (with_reducible first | refine eM ?_ ?_ | refine eF ?_ ?_ ?_ | refine eN ?_ | refine eL ?_ ?_ ?_ | refine eA ?_ ?_ | refine IWk.mk ⟨_, hp, rfl⟩ ?_ ?_) | refine IWk.mk ⟨_, hp, rfl⟩ ?_ ?_)
        all_goals first | with_reducible rfl | omega | exact Or.inl (by decide) | (simp; done) | rfl | skip
        unfold fidx
        have h3 := hi.2
        rw [List.take_of_length_le (by omega)] at h3
        rw [if_neg (by simp [h3])]
theorem cont211_c {R : Env} (h : N211 R) (g : Nat) (l : List T3) (p : T3 → Bool) (m : Ms) (hc : ∀ x ∈ l, R.Mc g [.agg (t3 x), .loc 0 1 0 0] (msM R m) (.bool (p x)) (msM R m) 1) (hl : l.length ≤ 1073741824) :
    R.Mc 211 [.isl 3 (slc3 l), R.cl g [.loc 0 1 0 0]] (msM R m) (.bool (l.any p)) (msM R m) 1 :=
  h.o211.enterM 100 1 rfl rfl rfl fun X bb hfit hp => by
    refine sh ?_
    refine cM false [0] (idx219_c h.n219 g l p m hc hl) ?_
    repeat ((intro _u; clear _u); first | refine eK ?_ | refine eP ?_)
    refine sh ?_
    refine rM [0] ?_
    all_goals repeat' (first | exact True.intro | refine And.intro ?_ ?_ | (intro _u; clear _u) | (with_reducible first | refine eM ?_ ?_ | refine eF ?_ ?_ ?_ | refine eN ?_ | refine eL ?_ ?_ ?_ | refine eA ?_ ?_ | refine IWk.mk ⟨_, hp, rfl⟩ ?_ ?_) | refine IWk.mk ⟨_, hp, rfl⟩ ?_ ?_)
    all_goals first | with_reducible rfl | omega | exact Or.inl (by decide) | (simp; done) | rfl | skip
    exact fidx_ge
theorem off_c {R : Env} (h : N206 R) (p : T3) : R.Pc 206 [.agg (t3 p)] (.bool (off3 p)) :=
  h.o206.enter 60 rfl fun X bb hfit hp => by
    unfold off3
    refine sh ?_
    refine cS (fun h1 => ?_) (fun h1 => ?_)
    · refine sh ?_
      refine rT ?_
      all_goals repeat' (first | exact True.intro | refine And.intro ?_ ?_ | (intro _u; clear _u) | (with_reducible first | refine eM ?_ ?_ | refine eF ?_ ?_ ?_ | refine eN ?_ | refine eL ?_ ?_ ?_ | refine eA ?_ ?_ | refine IWk.mk ⟨_, hp, rfl⟩ ?_ ?_) | refine IWk.mk ⟨_, hp, rfl⟩ ?_ ?_)
      all_goals first | with_reducible rfl | omega | exact Or.inl (by decide) | (simp; done) | rfl | skip
      simp; omega
    · refine sh ?_
      refine rT ?_
      all_goals repeat' (first | exact True.intro | refine And.intro ?_ ?_ | (intro _u; clear _u) | (with_reducible first | refine eM ?_ ?_ | refine eF ?_ ?_ ?_ | refine eN ?_ | refine eL ?_ ?_ ?_ | refine eA ?_ ?_ | refine IWk.mk ⟨_, hp, rfl⟩ ?_ ?_) | refine IWk.mk ⟨_, hp, rfl⟩ ?_ ?_)
      all_goals first | with_reducible rfl | omega | exact Or.inl (by decide) | (simp; done) | rfl | skip
      rw [Bool.eq_iff_iff]; simp only [Bool.not_eq_true', decide_eq_true_eq, decide_eq_false_iff_not]; omega
theorem pair_c {R : Env} (h : N207 R) (p : Int × Int) : R.Pc 207 [.agg (p2 p)] (.bool (bad2 p)) :=
  h.o207.enter 60 rfl fun X bb hfit hp => by
    unfold bad2
    refine sh ?_
    refine cS (fun h1 => ?_) (fun h1 => ?_)
    · refine sh ?_
      refine rT ?_
      all_goals repeat' (first | exact True.intro | refine And.intro ?_ ?_ | (intro _u; clear _u) | (with_reducible first | refine eM ?_ ?_ | refine eF ?_ ?_ ?_ | refine eN ?_ | refine eL ?_ ?_ ?_ | refine eA ?_ ?_ | refine IWk.mk ⟨_, hp, rfl⟩ ?_ ?_) | refine IWk.mk ⟨_, hp, rfl⟩ ?_ ?_)
      all_goals first | with_reducible rfl | omega | exact Or.inl (by decide) | (simp; done) | rfl | skip
      simp; omega
    · refine sh ?_
      refine rT ?_
      all_goals repeat' (first | exact True.intro | refine And.intro ?_ ?_ | (intro _u; clear _u) | (with_reducible first | refine eM ?_ ?_ | refine eF ?_ ?_ ?_ | refine eN ?_ | refine eL ?_ ?_ ?_ | refine eA ?_ ?_ | refine IWk.mk ⟨_, hp, rfl⟩ ?_ ?_) | refine IWk.mk ⟨_, hp, rfl⟩ ?_ ?_)
      all_goals first | with_reducible rfl | omega | exact Or.inl (by decide) | (simp; done) | rfl | skip
      rw [Bool.eq_iff_iff]; simp only [Bool.not_eq_true', decide_eq_true_eq, decide_eq_false_iff_not]; omega
theorem tri_c {R : Env} (h : N208 R) (m : Ms) (p : T3) : R.Mc 208 [.agg (t3 p), .loc 0 1 0 0] (msM R m) (.bool (badT m.v.length p)) (msM R m) 1 :=
  h.o208.enterM 60 1 rfl rfl rfl fun X bb hfit hp => by
    unfold badT
    refine sh ?_
    refine cS (fun h1 => ?_) (fun h1 => ?_)
    · refine sh ?_
      refine rM [0] ?_
      all_goals repeat' (first | exact True.intro | refine And.intro ?_ ?_ | (intro _u; clear _u) | (with_reducible first | refine eM ?_ ?_ | refine eF ?_ ?_ ?_ | refine eN ?_ | refine eL ?_ ?_ ?_ | refine eA ?_ ?_ | refine IWk.mk ⟨_, hp, rfl⟩ ?_ ?_) | refine IWk.mk ⟨_, hp, rfl⟩ ?_ ?_)
      all_goals first | with_reducible rfl | omega | exact Or.inl (by decide) | (simp; done) | rfl | skip
      simp; omega
    · refine sh ?_
      refine cS (fun h2 => ?_) (fun h2 => ?_)
      · refine sh ?_
        refine rM [0] ?_
        all_goals repeat' (first | exact True.intro | refine And.intro ?_ ?_ | (intro _u; clear _u) | (with_reducible first | refine eM ?_ ?_ | refine eF ?_ ?_ ?_ | refine eN ?_ | refine eL ?_ ?_ ?_ | refine eA ?_ ?_ | refine IWk.mk ⟨_, hp, rfl⟩ ?_ ?_) | refine IWk.mk ⟨_, hp, rfl⟩ ?_ ?_)
        all_goals first | with_reducible rfl | omega | exact Or.inl (by decide) | (simp; done) | rfl | skip
        simp; omega
      · refine sh ?_
        refine cS (fun h3 => ?_) (fun h3 => ?_)
        · refine sh ?_
          refine rM [0] ?_
          all_goals repeat' (first | exact True.intro | refine And.intro ?_ ?_ | (intro _u; clear _u) | (with_reducible first | refine eM ?_ ?_ | refine eF ?_ ?_ ?_ | refine eN ?_ | refine eL ?_ ?_ ?_ | refine eA ?_ ?_ | refine IWk.mk ⟨_, hp, rfl⟩ ?_ ?_) | refine IWk.mk ⟨_, hp, rfl⟩ ?_ ?_)
          all_goals first | with_reducible rfl | omega | exact Or.inl (by decide) | (simp; done) | rfl | skip
          simp; omega
        · refine sh ?_
          refine cS (fun h4 => ?_) (fun h4 => ?_)
          · refine sh ?_
            refine rM [0] ?_
            all_goals repeat' (first | exact True.intro | refine And.intro ?_ ?_ | (intro _u; clear _u) | (with_reducible first | refine eM ?_ ?_ | refine eF ?_ ?_ ?_ | refine eN ?_ | refine eL ?_ ?_ ?_ | refine eA ?_ ?_ | refine IWk.mk ⟨_, hp, rfl⟩ ?_ ?_) | refine IWk.mk ⟨_, hp, rfl⟩ ?_ ?_)
            all_goals first | with_reducible rfl | omega | exact Or.inl (by decide) | (simp; done) | rfl | skip
            simp; omega
          · refine sh ?_
            refine rM [0] ?_
            all_goals repeat' (first | exact True.intro | refine And.intro ?_ ?_ | (intro _u; clear _u) | (with_reducible first | refine eM ?_ ?_ | refine eF ?_ ?_ ?_ | refine eN ?_ | refine eL ?_ ?_ ?_ | refine eA ?_ ?_ | refine IWk.mk ⟨_, hp, rfl⟩ ?_ ?_) | refine IWk.mk ⟨_, hp, rfl⟩ ?_ ?_)
            all_goals first | with_reducible rfl | omega | exact Or.inl (by decide) | (simp; done) | rfl | skip
            rw [Bool.eq_iff_iff]; simp only [Bool.not_eq_true', decide_eq_true_eq, decide_eq_false_iff_not, beq_iff_eq]; omega
theorem mcheck_c {R : Env} (h : N193 R) (m : Ms) : R.Pc 193 [.agg m.row] (.int .i64 (mchk m)) :=
  h.o193.enter 100 rfl fun X bb hfit hp => by
    unfold mchk
    refine sh ?_
    refine cS (fun h1 => ?_) (fun h1 => ?_)
    · rw [if_pos (.inl (by omega))]
      refine sh ?_
      exact rT
    · refine sh ?_
      refine cS (fun h2 => ?_) (fun h2 => ?_)
      · rw [if_pos (.inr (by omega))]
        refine sh ?_
        exact rT
      · rw [if_neg (by omega)]
        refine sh ?_
        refine cS (fun h3 => ?_) (fun h3 => ?_)
        · rw [if_pos (.inl (by omega))]
          refine sh ?_
          exact rT
        · refine sh ?_
          refine cS (fun h4 => ?_) (fun h4 => ?_)
          · rw [if_pos (.inr (.inl (by omega)))]
            refine sh ?_
            exact rT
          · refine sh ?_
            refine cS (fun h5 => ?_) (fun h5 => ?_)
            · rw [if_pos (.inr (.inr (by omega)))]
              refine sh ?_
              exact rT
            · rw [if_neg (by omega)]
              refine sh ?_
              refine ICall.pure h.n209.o209.hb (cont209_c h.n209 206 h.n206.o206.hb m.v off3 (fun x _ => off_c h.n206 x) (by omega)) rfl ?_
              refine sh ?_
              refine cS (fun h6 => ?_) (fun h6 => ?_)
              · rw [if_pos h6]
                refine sh ?_
                exact rT
              · rw [if_neg (by rw [h6]; decide)]
                refine sh ?_
                refine ICall.pure h.n210.o210.hb (cont210_c h.n210 207 h.n207.o207.hb m.uv bad2 (fun x _ => pair_c h.n207 x) (by omega)) rfl ?_
                refine sh ?_
                refine cS (fun h7 => ?_) (fun h7 => ?_)
                · rw [if_pos (.inl h7)]
                  refine sh ?_
                  exact rT
                · refine sh ?_
                  refine cM false [0] (cont211_c h.n211 208 m.t (badT m.v.length) m (fun x _ => tri_c h.n208 m x) (by omega)) ?_
                  repeat ((intro _u; clear _u); first | refine eK ?_ | refine eP ?_)
                  refine sh ?_
                  refine cS (fun h8 => ?_) (fun h8 => ?_)
                  · rw [if_pos (.inr h8)]
                    refine sh ?_
                    exact rT
                  · rw [if_neg (by rw [h7, h8]; decide)]
                    refine sh ?_
                    exact rT
end Go.UM

namespace Go.UM
open Go.AM
set_option maxRecDepth 4000
theorem clone8_c {R : Env} (h : N62 R) (l : List UInt8) (hl : l.length ≤ 1073741824) :
    R.Mc 62 [.isl 1 (slc8 l)] [] (.osl 0 l.length) [(0, .arr (R.ty 4) 1 (slc8 l))] 1 :=
  h.o62.enterM 60 0 rfl rfl rfl fun X b hfit hp => by
    refine sh ?_
    refine ANil.mk (fun hn => ?_) ?_
    · have : l = [] := by simpa [slc8] using hn
      subst this
      refine sh ?_
      exact rM [50]
    · refine sh ?_
      exact rM [0]
def enc (w : Nat) (x : Int) : List UInt8 := (List.range w).map fun i => u8 (x / 256 ^ i)
def puts (b : List UInt8) (w : Int) (n : List Int) : List UInt8 × Int :=
  if w < 1 ∨ 8 < w then ([], 2) else if n.any (fun x => decide (256 ^ w.toNat ≤ x)) = true then ([], 3) else (b ++ n.flatMap (enc w.toNat), 0)
theorem flatMap_len (w : Nat) : ∀ l : List Int, (l.flatMap (enc w)).length = w * l.length
  | [] => by simp
  | x :: r => by simp [flatMap_len w r, enc, Nat.mul_add]; omega
theorem put_room {b : List UInt8} {n : List Int} {w : Int} {k : Nat} {i : Nat} {x : Int} (hl : b.length + 8 * n.length ≤ 1073741824) (hw : w ≤ 8) (hw1 : 1 ≤ w) (hk : (k : Int) < n.length) (hi : (i : Int) < w) : (b ++ (n.take k).flatMap (enc w.toNat) ++ enc i x).length + 1 ≤ 1073741824 := by
  have h1 : w.toNat * (n.take k).length ≤ 8 * k := Nat.mul_le_mul (by omega) (by simp; omega)
  simp only [List.length_append, flatMap_len]
  have : (enc i x).length = i := by simp [enc]
  omega
theorem enc_succ (i : Nat) (x : Int) : enc (i + 1) x = enc i x ++ [u8 (x / 256 ^ i)] := by simp [enc, List.range_succ]
@[simp] theorem enc_zero (x : Int) : enc 0 x = [] := rfl
@[simp] theorem enc_length (w : Nat) (x : Int) : (enc w x).length = w := by simp [enc]
theorem shr_enc {x : Int} {i : Nat} (hx : 0 ≤ x) (hi : i < 8) : shrI .u64 x (8 * (i : Int)) = x / 256 ^ i := by
  rw [shr_eq hx]
  have h : (8 * (i : Int)).toNat = 8 * i := by omega
  rw [h, show min (8 * i) (IntKind.bits .u64) = 8 * i by simp [IntKind.bits]; omega, Int.pow_mul]
  rfl
theorem shr_big {x w : Int} (hx : 0 ≤ x) (h1 : 1 ≤ w) (h8 : w < 8) : 0 < shrI .u64 x (8 * w) ↔ 256 ^ w.toNat ≤ x := by
  obtain ⟨i, rfl⟩ : ∃ i : Nat, w = i := ⟨w.toNat, by omega⟩
  rw [shr_enc hx (by omega), Int.toNat_natCast]
  have hp : (0 : Int) < 256 ^ i := Int.pow_pos (by decide)
  constructor
  · intro h
    have := (Int.le_ediv_iff_mul_le hp).1 (show 1 ≤ x / 256 ^ i from h)
    rwa [Int.one_mul] at this
  · intro h
    show 1 ≤ x / 256 ^ i
    exact (Int.le_ediv_iff_mul_le hp).2 (by rw [Int.one_mul]; exact h)
theorem any_take_succ {n : List Int} {k : Nat} {x : Int} {p : Int → Bool} (h : n[k]? = some x) : (n.take (k + 1)).any p = ((n.take k).any p || p x) := by
  rw [take_succ_get h]; simp
theorem puts_bad {b : List UInt8} {w : Int} {n : List Int} {x : Int} (h1 : 1 ≤ w) (h2 : w ≤ 8) (hx : x ∈ n) (h : 256 ^ w.toNat ≤ x) : puts b w n = ([], 3) := by
  unfold puts
  rw [if_neg (by omega), if_pos]
  simp only [List.any_eq_true, decide_eq_true_eq]
  exact ⟨x, hx, h⟩
theorem puts_ok {b : List UInt8} {w : Int} {n : List Int} (h1 : 1 ≤ w) (h2 : w ≤ 8) (h : n.any (fun x => decide (256 ^ w.toNat ≤ x)) = false) : puts b w n = (b ++ n.flatMap (enc w.toNat), 0) := by
  unfold puts
  rw [if_neg (by omega), if_neg (by rw [h]; decide)]
theorem put_c {R : Env} (h : N54 R) (b : List UInt8) (w : Int) (n : List Int) (hl : b.length + 8 * n.length ≤ 1073741824) (hn : ∀ x ∈ n, 0 ≤ x ∧ x ≤ 18446744073709551615) :
    R.Mc 54 [.isl 1 (slc8 b), .int .i64 w, .isl 1 (slcK .u64 n)] [] (.tup [.osl 0 (puts b w n).1.length, .int .i64 (puts b w n).2]) [(0, .arr (R.ty 4) 1 (slc8 (puts b w n).1))] 1 :=
  h.o54.enterM 100 0 rfl rfl rfl fun X bb hfit hp => by
    generalize hq : puts b w n = q
    refine sh ?_
    refine cS (fun h1 => ?_) (fun h1 => ?_)
    · rw [puts, if_pos (.inl h1)] at hq
      subst hq
      refine sh ?_
      exact rM [50]
    · refine sh ?_
      refine cS (fun h2 => ?_) (fun h2 => ?_)
      · rw [puts, if_pos (.inr h2)] at hq
        subst hq
        refine sh ?_
        exact rM [50]
      · refine sh ?_
        refine cM false [] (clone8_c h.n62 b (by omega)) ?_
        repeat ((intro _u; clear _u); first | refine eK ?_ | refine eP ?_)
        refine sh ?_
        refine lPa 100 (fun k : Nat => k ≤ n.length ∧ (n.take k).any (fun x => decide (256 ^ w.toNat ≤ x)) = false) (fun k => ⟨[(1, .int .i64 w), (8, .osl 0 (b ++ (n.take k).flatMap (enc w.toNat)).length), (20, .isl 1 (slcK .u64 n)), (21, .int .i64 n.length), (22, .int .i64 k)], [(0, .arr (R.ty 4) 1 (slc8 (b ++ (n.take k).flatMap (enc w.toNat))))], 1⟩) (fun k => n.length - k) (0) ?_ ?_
        · exact ⟨Nat.zero_le _, by simp⟩
        · intro k hk
          dsimp only
          refine sh ?_
          refine cS (fun h3 => ?_) (fun h3 => ?_)
          · obtain ⟨x, hx⟩ : ∃ u_, n[k]? = some u_ := ⟨_, List.getElem?_eq_getElem (by first | omega | (simp <;> omega))⟩
            refine sh ?_
            refine eget_map hx ?_
            have hxk := hx
            have hx := hn x (List.mem_of_getElem? hxk)
            refine sh ?_
            refine cS (fun h4 => ?_) (fun h4 => ?_)
            · refine sh ?_
              refine cS (fun h5 => ?_) (fun h5 => ?_)
              · rw [puts_bad (by omega) (by omega) (List.mem_of_getElem? hxk) ((shr_big hx.1 (by omega) h4).1 h5)] at hq
                subst hq
                refine sh ?_
                exact rM [50]
              · have hnb : ¬ 256 ^ w.toNat ≤ x := fun hb => absurd ((shr_big hx.1 (by omega) h4).2 hb) (by omega)
                refine sh ?_
                refine lPa 100 (fun i : Nat => (i : Int) ≤ w) (fun i => ⟨[(1, .int .i64 w), (8, .osl 0 (b ++ (n.take k).flatMap (enc w.toNat) ++ enc i x).length), (10, .int .u64 x), (20, .isl 1 (slcK .u64 n)), (21, .int .i64 n.length), (22, .int .i64 k), (35, .int .i64 w), (36, .int .i64 i)], [(0, .arr (R.ty 4) 1 (slc8 (b ++ (n.take k).flatMap (enc w.toNat) ++ enc i x)))], 1⟩) (fun i => w.toNat - i) (0) ?_ ?_
                · show (0 : Int) ≤ w
                  omega
                · intro i hi
                  dsimp only
                  refine sh ?_
                  refine cS (fun h6 => ?_) (fun h6 => ?_)
                  · refine sh ?_
                    rw [shr_enc hx.1 (by omega)]
                    refine iwr_any ?_
                    refine sh ?_
                    refine ⟨by rw [slc8_length]; exact put_room hl h2 h1 h3 h6, ?_⟩
                    refine sh ?_
                    refine nX (i + 1) ?_ ?_ ⟨_, hp, rfl⟩ ?_ ?_
                    · omega
                    · omega
                    · all_goals repeat' (first | exact True.intro | refine And.intro ?_ ?_ | (intro _u; clear _u) | (with_reducible first | refine eM ?_ ?_ | refine eF ?_ ?_ ?_ | refine eN ?_ | refine eL ?_ ?_ ?_ | refine eA ?_ ?_ | refine IWk.mk ⟨_, hp, rfl⟩ ?_ ?_) | refine IWk.mk ⟨_, hp, rfl⟩ ?_ ?_)
                      all_goals first | with_reducible rfl | omega | exact Or.inl (by decide) | (simp; done) | rfl | skip
                    · all_goals repeat' (first | exact True.intro | refine And.intro ?_ ?_ | (intro _u; clear _u) | (with_reducible first | refine eM ?_ ?_ | refine eF ?_ ?_ ?_ | refine eN ?_ | refine eL ?_ ?_ ?_ | refine eA ?_ ?_ | refine IWk.mk ⟨_, hp, rfl⟩ ?_ ?_) | refine IWk.mk ⟨_, hp, rfl⟩ ?_ ?_)
                      all_goals first | with_reducible rfl | omega | exact Or.inl (by decide) | (simp; done) | rfl | skip
                      simp [enc_succ]
                  · refine sh ?_
                    refine nX (k + 1) ?_ ?_ ⟨_, hp, rfl⟩ ?_ ?_
                    · refine ⟨by omega, ?_⟩
                      rw [any_take_succ hxk, hk.2, decide_eq_false hnb]; rfl
                    · omega
                    · all_goals repeat' (first | exact True.intro | refine And.intro ?_ ?_ | (intro _u; clear _u) | (with_reducible first | refine eM ?_ ?_ | refine eF ?_ ?_ ?_ | refine eN ?_ | refine eL ?_ ?_ ?_ | refine eA ?_ ?_ | refine IWk.mk ⟨_, hp, rfl⟩ ?_ ?_) | refine IWk.mk ⟨_, hp, rfl⟩ ?_ ?_)
                      all_goals first | with_reducible rfl | omega | exact Or.inl (by decide) | (simp; done) | rfl | skip
                      rw [take_succ_get hxk, show i = w.toNat by omega]; simp
                    · all_goals repeat' (first | exact True.intro | refine And.intro ?_ ?_ | (intro _u; clear _u) | (with_reducible first | refine eM ?_ ?_ | refine eF ?_ ?_ ?_ | refine eN ?_ | refine eL ?_ ?_ ?_ | refine eA ?_ ?_ | refine IWk.mk ⟨_, hp, rfl⟩ ?_ ?_) | refine IWk.mk ⟨_, hp, rfl⟩ ?_ ?_)
                      all_goals first | with_reducible rfl | omega | exact Or.inl (by decide) | (simp; done) | rfl | skip
                      rw [take_succ_get hxk, show i = w.toNat by omega]; simp
            · have hnb : ¬ 256 ^ w.toNat ≤ x := by rw [show w.toNat = 8 by omega]; omega
              refine sh ?_
              refine lPa 100 (fun i : Nat => (i : Int) ≤ w) (fun i => ⟨[(1, .int .i64 w), (8, .osl 0 (b ++ (n.take k).flatMap (enc w.toNat) ++ enc i x).length), (10, .int .u64 x), (20, .isl 1 (slcK .u64 n)), (21, .int .i64 n.length), (22, .int .i64 k), (35, .int .i64 w), (36, .int .i64 i)], [(0, .arr (R.ty 4) 1 (slc8 (b ++ (n.take k).flatMap (enc w.toNat) ++ enc i x)))], 1⟩) (fun i => w.toNat - i) (0) ?_ ?_
              · show (0 : Int) ≤ w
                omega
              · intro i hi
                dsimp only
                refine sh ?_
                refine cS (fun h6 => ?_) (fun h6 => ?_)
                · refine sh ?_
                  rw [shr_enc hx.1 (by omega)]
                  refine iwr_any ?_
                  refine sh ?_
                  refine ⟨by rw [slc8_length]; exact put_room hl h2 h1 h3 h6, ?_⟩
                  refine sh ?_
                  refine nX (i + 1) ?_ ?_ ⟨_, hp, rfl⟩ ?_ ?_
                  · omega
                  · omega
                  · all_goals repeat' (first | exact True.intro | refine And.intro ?_ ?_ | (intro _u; clear _u) | (with_reducible first | refine eM ?_ ?_ | refine eF ?_ ?_ ?_ | refine eN ?_ | refine eL ?_ ?_ ?_ | refine eA ?_ ?_ | refine IWk.mk ⟨_, hp, rfl⟩ ?_ ?_) | refine IWk.mk ⟨_, hp, rfl⟩ ?_ ?_)
                    all_goals first | with_reducible rfl | omega | exact Or.inl (by decide) | (simp; done) | rfl | skip
                  · all_goals repeat' (first | exact True.intro | refine And.intro ?_ ?_ | (intro _u; clear _u) | (with_reducible first | refine eM ?_ ?_ | refine eF ?_ ?_ ?_ | refine eN ?_ | refine eL ?_ ?_ ?_ | refine eA ?_ ?_ | refine IWk.mk ⟨_, hp, rfl⟩ ?_ ?_) | refine IWk.mk ⟨_, hp, rfl⟩ ?_ ?_)
                    all_goals first | with_reducible rfl | omega | exact Or.inl (by decide) | (simp; done) | rfl | skip
                    simp [enc_succ]
                · refine sh ?_
                  refine nX (k + 1) ?_ ?_ ⟨_, hp, rfl⟩ ?_ ?_
                  · refine ⟨by omega, ?_⟩
                    rw [any_take_succ hxk, hk.2, decide_eq_false hnb]; rfl
                  · omega
                  · all_goals repeat' (first | exact True.intro | refine And.intro ?_ ?_ | (intro _u; clear _u) | (with_reducible first | refine eM ?_ ?_ | refine eF ?_ ?_ ?_ | refine eN ?_ | refine eL ?_ ?_ ?_ | refine eA ?_ ?_ | refine IWk.mk ⟨_, hp, rfl⟩ ?_ ?_) | refine IWk.mk ⟨_, hp, rfl⟩ ?_ ?_)
                    all_goals first | with_reducible rfl | omega | exact Or.inl (by decide) | (simp; done) | rfl | skip
                    rw [take_succ_get hxk, show i = w.toNat by omega]; simp
                  · all_goals repeat' (first | exact True.intro | refine And.intro ?_ ?_ | (intro _u; clear _u) | (with_reducible first | refine eM ?_ ?_ | refine eF ?_ ?_ ?_ | refine eN ?_ | refine eL ?_ ?_ ?_ | refine eA ?_ ?_ | refine IWk.mk ⟨_, hp, rfl⟩ ?_ ?_) | refine IWk.mk ⟨_, hp, rfl⟩ ?_ ?_)
                    all_goals first | with_reducible rfl | omega | exact Or.inl (by decide) | (simp; done) | rfl | skip
                    rw [take_succ_get hxk, show i = w.toNat by omega]; simp
          · have hkn : n.take k = n := List.take_of_length_le (by omega)
            rw [hkn] at hk ⊢
            rw [puts_ok (by omega) (by omega) hk.2] at hq
            subst hq
            refine sh ?_
            exact rM [0]
end Go.UM

namespace Go.UM
open Go.AM
theorem ofInt_toNat {n : Nat} {x : Int} (h0 : 0 ≤ x) (h1 : x < 2 ^ n) : (BitVec.ofInt n x).toNat = x.toNat := by
  rw [BitVec.toNat_ofInt]
  congr 1
  apply Int.emod_eq_of_lt h0
  exact_mod_cast h1
theorem wr_nat_u64 {x : Nat} (h : x < 18446744073709551616) : wr .u64 (x : Int) = x := wr_in (k := .u64) ⟨by omega, by omega⟩
theorem wr_nat_u8 {x : Nat} (h : x < 256) : wr .u8 (x : Int) = x := wr_in (k := .u8) ⟨by omega, by omega⟩
theorem wr_nat_i64 {x : Nat} (h : x < 9223372036854775808) : wr .i64 (x : Int) = x := wr_in (k := .i64) ⟨by omega, by omega⟩
theorem or_u64 {x y : Int} (hx : 0 ≤ x ∧ x ≤ 18446744073709551615) (hy : 0 ≤ y ∧ y ≤ 18446744073709551615) : bit2 .or .u64 x y = ((x.toNat ||| y.toNat : Nat) : Int) := by
  have e : bit2 .or .u64 x y = wr .u64 ((BitVec.ofInt 64 x ||| BitVec.ofInt 64 y).toNat : Int) := rfl
  rw [e, BitVec.toNat_or, ofInt_toNat hx.1 (by omega), ofInt_toNat hy.1 (by omega)]
  apply wr_nat_u64
  exact Nat.or_lt_two_pow (n := 64) (by omega) (by omega)
theorem and_u64 {x y : Int} (hx : 0 ≤ x ∧ x ≤ 18446744073709551615) (hy : 0 ≤ y ∧ y ≤ 18446744073709551615) : bit2 .and .u64 x y = ((x.toNat &&& y.toNat : Nat) : Int) := by
  have e : bit2 .and .u64 x y = wr .u64 ((BitVec.ofInt 64 x &&& BitVec.ofInt 64 y).toNat : Int) := rfl
  rw [e, BitVec.toNat_and, ofInt_toNat hx.1 (by omega), ofInt_toNat hy.1 (by omega)]
  apply wr_nat_u64
  exact Nat.and_lt_two_pow (n := 64) _ (by omega)
theorem or_i64 {x y : Int} (hx : 0 ≤ x ∧ x ≤ 9223372036854775807) (hy : 0 ≤ y ∧ y ≤ 9223372036854775807) : bit2 .or .i64 x y = ((x.toNat ||| y.toNat : Nat) : Int) := by
  have e : bit2 .or .i64 x y = wr .i64 ((BitVec.ofInt 64 x ||| BitVec.ofInt 64 y).toNat : Int) := rfl
  rw [e, BitVec.toNat_or, ofInt_toNat hx.1 (by omega), ofInt_toNat hy.1 (by omega)]
  apply wr_nat_i64
  exact Nat.or_lt_two_pow (n := 63) (by omega) (by omega)
theorem and_i64 {x y : Int} (hx : 0 ≤ x ∧ x ≤ 9223372036854775807) (hy : 0 ≤ y ∧ y ≤ 9223372036854775807) : bit2 .and .i64 x y = ((x.toNat &&& y.toNat : Nat) : Int) := by
  have e : bit2 .and .i64 x y = wr .i64 ((BitVec.ofInt 64 x &&& BitVec.ofInt 64 y).toNat : Int) := rfl
  rw [e, BitVec.toNat_and, ofInt_toNat hx.1 (by omega), ofInt_toNat hy.1 (by omega)]
  apply wr_nat_i64
  exact Nat.and_lt_two_pow (n := 63) _ (by omega)
def le : List UInt8 → Nat
  | [] => 0
  | c :: r => c.toNat + 256 * le r
theorem le_lt : ∀ l : List UInt8, le l < 256 ^ l.length
  | [] => by simp [le]
  | c :: r => by
    have h1 := le_lt r
    have h2 := c.toNat_lt
    simp only [le, List.length_cons, Nat.pow_succ]
    omega
theorem le_append : ∀ (l m : List UInt8), le (l ++ m) = le l + 256 ^ l.length * le m
  | [], m => by simp [le]
  | c :: r, m => by
    simp only [List.cons_append, le, le_append r, List.length_cons, Nat.pow_succ, Nat.mul_add]
    rw [Nat.mul_comm (256 ^ r.length) 256, Nat.mul_assoc]
    omega
theorem le_snoc (l : List UInt8) (c : UInt8) : le (l ++ [c]) = le l + 256 ^ l.length * c.toNat := by
  rw [le_append]; simp [le]
theorem shl_byte {c : Nat} {i : Nat} (hc : c < 256) (hi : i < 8) : shlI .u64 (c : Int) (8 * (i : Int)) = ((256 ^ i * c : Nat) : Int) := by
  have h : (8 * (i : Int)).toNat = 8 * i := by omega
  unfold shlI
  rw [h, show min (8 * i) (IntKind.bits .u64) = 8 * i by simp [IntKind.bits]; omega]
  have hp : (2 : Int) ^ (8 * i) = ((256 ^ i : Nat) : Int) := by rw [Int.pow_mul, Int.natCast_pow]; rfl
  rw [hp]
  have e : (c : Int) * ((256 ^ i : Nat) : Int) = ((256 ^ i * c : Nat) : Int) := by rw [Int.natCast_mul, Int.mul_comm]
  rw [e]
  apply wr_nat_u64
  have h1 : 256 ^ i * c < 256 ^ i * 256 := by
    apply Nat.mul_lt_mul_of_pos_left hc
    exact Nat.pow_pos (by decide)
  have h2 : 256 ^ i * 256 ≤ 256 ^ 8 := by
    rw [← Nat.pow_succ]
    exact Nat.pow_le_pow_right (by decide) (by omega)
  omega
theorem or_byte {n : Nat} {c : Nat} {i : Nat} (hn : n < 256 ^ i) (hc : c < 256) (hi : i < 8) : bit2 .or .u64 (n : Int) (shlI .u64 (c : Int) (8 * (i : Int))) = ((n + 256 ^ i * c : Nat) : Int) := by
  have h2 : 256 ^ i * 256 ≤ 256 ^ 8 := by
    rw [← Nat.pow_succ]
    exact Nat.pow_le_pow_right (by decide) (by omega)
  have h1 : 256 ^ i * c < 256 ^ i * 256 := by
    apply Nat.mul_lt_mul_of_pos_left hc
    exact Nat.pow_pos (by decide)
  rw [shl_byte hc hi, or_u64 ⟨by omega, by omega⟩ ⟨by omega, by omega⟩, Int.toNat_natCast, Int.toNat_natCast, Nat.or_comm]
  congr 1
  have e : 256 ^ i = 2 ^ (8 * i) := by rw [Nat.pow_mul]
  rw [e] at hn ⊢
  rw [← Nat.two_pow_add_eq_or_of_lt hn, Nat.add_comm]
end Go.UM

namespace Go.UM
open Go.AM
set_option maxRecDepth 4000
def signs (b : List UInt8) (w : Int) (n : List Int) : List UInt8 × Int :=
  if w < 1 ∨ 8 < w then ([], 2) else if n.any (fun x => decide (x < -(256 ^ w.toNat / 2)) || decide (256 ^ w.toNat / 2 ≤ x)) = true then ([], 3) else puts b w (n.map fun x => x % 256 ^ w.toNat)
theorem signs_bad {b : List UInt8} {w : Int} {n : List Int} {x : Int} (h1 : 1 ≤ w) (h2 : w ≤ 8) (hx : x ∈ n) (h : x < -(256 ^ w.toNat / 2) ∨ 256 ^ w.toNat / 2 ≤ x) : signs b w n = ([], 3) := by
  unfold signs
  rw [if_neg (by omega), if_pos]
  simp only [List.any_eq_true, Bool.or_eq_true, decide_eq_true_eq]
  exact ⟨x, hx, h⟩
theorem signs_ok {b : List UInt8} {w : Int} {n : List Int} (h1 : 1 ≤ w) (h2 : w ≤ 8) (h : n.any (fun x => decide (x < -(256 ^ w.toNat / 2)) || decide (256 ^ w.toNat / 2 ≤ x)) = false) : signs b w n = puts b w (n.map fun x => x % 256 ^ w.toNat) := by
  unfold signs
  rw [if_neg (by omega), if_neg (by rw [h]; decide)]
theorem sx_back {w x : Int} (h1 : 1 ≤ w) (h2 : w ≤ 8) (hx : inI .i64 x) : (shrI .i64 (shlI .i64 x (64 - 8 * w)) (64 - 8 * w) = x) ↔ ¬ (x < -(256 ^ w.toNat / 2) ∨ 256 ^ w.toNat / 2 ≤ x) := by
  simp only [inI] at hx
  obtain h | h | h | h | h | h | h | h : w = 1 ∨ w = 2 ∨ w = 3 ∨ w = 4 ∨ w = 5 ∨ w = 6 ∨ w = 7 ∨ w = 8 := by omega
  all_goals subst h
  all_goals (simp only [shrI, shlI, IntKind.wrap, IntKind.bits, IntKind.signed]; simp [Int.fdiv_eq_ediv]; omega)
theorem ux_bits {w x : Int} (h1 : 1 ≤ w) (h2 : w ≤ 8) (hx : inI .i64 x) : shrI .u64 (shlI .u64 (wr .u64 x) (64 - 8 * w)) (64 - 8 * w) = x % 256 ^ w.toNat := by
  simp only [inI] at hx
  obtain h | h | h | h | h | h | h | h : w = 1 ∨ w = 2 ∨ w = 3 ∨ w = 4 ∨ w = 5 ∨ w = 6 ∨ w = 7 ∨ w = 8 := by omega
  all_goals subst h
  all_goals (simp only [wr, shrI, shlI, IntKind.wrap, IntKind.bits, IntKind.signed]; simp [Int.fdiv_eq_ediv] <;> omega)
theorem puts_mod {b : List UInt8} {w : Int} {n : List Int} (h1 : 1 ≤ w) (h2 : w ≤ 8) : ∀ x ∈ n.map (fun x => x % 256 ^ w.toNat), 0 ≤ x ∧ x ≤ 18446744073709551615 := by
  intro x hx
  obtain ⟨y, _, rfl⟩ := List.mem_map.1 hx
  obtain h | h | h | h | h | h | h | h : w = 1 ∨ w = 2 ∨ w = 3 ∨ w = 4 ∨ w = 5 ∨ w = 6 ∨ w = 7 ∨ w = 8 := by omega
  all_goals (subst h; simp <;> omega)
theorem signed_c {R : Env} (h : N71 R) (b : List UInt8) (w : Int) (n : List Int) (hl : b.length + 8 * n.length ≤ 1073741824) (hn : ∀ x ∈ n, inI .i64 x) :
    R.Mc 71 [.isl 1 (slc8 b), .int .i64 w, .isl 1 (slcK .i64 n)] [] (.tup [.osl 0 (signs b w n).1.length, .int .i64 (signs b w n).2]) [(0, .arr (R.ty 4) 1 (slc8 (signs b w n).1))] 1 :=
  h.o71.enterM 100 0 rfl rfl rfl fun X bb hfit hp => by
    generalize hq : signs b w n = q
    refine sh ?_
    refine cS (fun h1 => ?_) (fun h1 => ?_)
    · rw [signs, if_pos (.inl h1)] at hq
      subst hq
      refine sh ?_
      exact rM [50]
    · refine sh ?_
      refine cS (fun h2 => ?_) (fun h2 => ?_)
      · rw [signs, if_pos (.inr h2)] at hq
        subst hq
        refine sh ?_
        exact rM [50]
      · refine sh ?_
        refine lPa 100 (fun k : Nat => k ≤ n.length ∧ (n.take k).any (fun x => decide (x < -(256 ^ w.toNat / 2)) || decide (256 ^ w.toNat / 2 ≤ x)) = false) (fun k => ⟨[(0, .isl 1 (slc8 b)), (1, .int .i64 w), (8, .osl 0 ((n.take k).map fun x => x % 256 ^ w.toNat).length), (18, .isl 1 (slcK .i64 n)), (19, .int .i64 n.length), (20, .int .i64 k)], [(0, .arr (R.ty 6) 1 (slcK .u64 ((n.take k).map fun x => x % 256 ^ w.toNat)))], 1⟩) (fun k => n.length - k) (0) ?_ ?_
        · exact ⟨Nat.zero_le _, by simp⟩
        · intro k hk
          dsimp only
          refine sh ?_
          refine cS (fun h3 => ?_) (fun h3 => ?_)
          · obtain ⟨x, hx⟩ : ∃ u_, n[k]? = some u_ := ⟨_, List.getElem?_eq_getElem (by first | omega | (simp <;> omega))⟩
            refine sh ?_
            refine eget_map hx ?_
            have hxk := hx
            have hx := hn x (List.mem_of_getElem? hxk)
            have hsx := sx_back (by omega) h2 hx
            refine sh ?_
            refine cS (fun h4 => ?_) (fun h4 => ?_)
            · rw [signs_bad (by omega) (by omega) (List.mem_of_getElem? hxk) (Decidable.not_not.1 fun hb => h4 (hsx.2 hb))] at hq
              subst hq
              refine sh ?_
              exact rM [50]
            · refine sh ?_
              refine iwr_any ?_
              refine sh ?_
              rw [ux_bits (by omega) h2 hx]
              refine nX (k + 1) ?_ ?_ ⟨_, hp, rfl⟩ ?_ ?_
              · refine ⟨by omega, ?_⟩
                rw [any_take_succ hxk, hk.2]
                have := hsx.1 h4
                simp only [Bool.false_or, Bool.or_eq_false_iff, decide_eq_false_iff_not]
                omega
              · omega
              · all_goals repeat' (first | exact True.intro | refine And.intro ?_ ?_ | (intro _u; clear _u) | (with_reducible first | refine eM ?_ ?_ | refine eF ?_ ?_ ?_ | refine eN ?_ | refine eL ?_ ?_ ?_ | refine eA ?_ ?_ | refine IWk.mk ⟨_, hp, rfl⟩ ?_ ?_) | refine IWk.mk ⟨_, hp, rfl⟩ ?_ ?_)
                all_goals first | with_reducible rfl | omega | exact Or.inl (by decide) | (simp; done) | rfl | skip
                rw [take_succ_get hxk]; simp
              · all_goals repeat' (first | exact True.intro | refine And.intro ?_ ?_ | (intro _u; clear _u) | (with_reducible first | refine eM ?_ ?_ | refine eF ?_ ?_ ?_ | refine eN ?_ | refine eL ?_ ?_ ?_ | refine eA ?_ ?_ | refine IWk.mk ⟨_, hp, rfl⟩ ?_ ?_) | refine IWk.mk ⟨_, hp, rfl⟩ ?_ ?_)
                all_goals first | with_reducible rfl | omega | exact Or.inl (by decide) | (simp; done) | rfl | skip
                rw [take_succ_get hxk]; simp [slcK]
          · have hkn : n.take k = n := List.take_of_length_le (by omega)
            rw [hkn] at hk ⊢
            rw [signs_ok (by omega) (by omega) hk.2] at hq
            subst hq
            refine sh ?_
            refine cM true [] (put_c h.n54 b w (n.map fun x => x % 256 ^ w.toNat) (by simpa using hl) (puts_mod (b := b) (by omega) h2)) ?_
            repeat ((intro _u; clear _u); first | refine eK ?_ | refine eP ?_)
            refine sh ?_
            exact rM [1]
structure Rd where
  l : List UInt8
  e : Int
  made : Bool
def Rd.row (r : Rd) : List AV := [.isl 1 (slc8 r.l), .int .i64 r.e, .bool r.made]
def Rd.off (r : Rd) : Bool := !r.made || decide (r.e ≠ 0)
def Rd.take (r : Rd) (n : Int) : List UInt8 × Rd :=
  if r.made = false ∨ r.e ≠ 0 then ([], r) else if n < 0 then ([], { r with e := 2 }) else if (r.l.length : Int) < n then ([], { r with e := 4 }) else (r.l.take n.toNat, { r with l := r.l.drop n.toNat })
def rdM (R : Env) (r : Rd) : IMem := [(0, .var (R.ty 9) r.row)]
theorem none_c {R : Env} (h : N64 R) (r : Rd) : R.Mc 64 [.loc 0 1 0 0] (rdM R r) (.bool (!r.made)) (rdM R r) 1 :=
  h.o64.enterM 60 1 rfl rfl rfl fun X bb hfit hp => by
    refine sh ?_
    exact rM [0]
theorem none_n {R : Env} (h : N64 R) : R.Pc 64 [.nilp] (.bool true) :=
  h.o64.enter 60 rfl fun X bb hfit hp => by
    refine sh ?_
    exact rT
theorem new_c {R : Env} (h : N56 R) (l : List UInt8) (hl : l.length ≤ 1073741824) : R.Mc 56 [.isl 1 (slc8 l)] [] (.loc 0 1 0 0) (rdM R ⟨l, 0, true⟩) 1 :=
  h.o56.enterM 60 0 rfl rfl rfl fun X bb hfit hp => by
    refine sh ?_
    refine cM false [] (clone8_c h.n62 l hl) ?_
    repeat ((intro _u; clear _u); first | refine eK ?_ | refine eP ?_)
    refine sh ?_
    exact rM [1]
theorem take_c {R : Env} (h : N59 R) (r : Rd) (n : Int) : R.Mc 59 [.loc 0 1 0 0, .int .i64 n] (rdM R r) (.isl 1 (slc8 (r.take n).1)) (rdM R (r.take n).2) 1 :=
  h.o59.enterM 60 1 rfl rfl rfl fun X bb hfit hp => by
    refine sh ?_
    refine cM false [0] (none_c h.n64 r) ?_
    repeat ((intro _u; clear _u); first | refine eK ?_ | refine eP ?_)
    generalize hq : r.take n = q
    cases hm : r.made with
    | false =>
      rw [Rd.take, if_pos (.inl hm)] at hq
      subst hq
      refine sh ?_
      exact rM [0]
    | true =>
    refine sh ?_
    refine cS (fun h1 => ?_) (fun h1 => ?_)
    · rw [Rd.take, if_pos (.inr (by simpa using h1))] at hq
      subst hq
      refine sh ?_
      exact rM [0]
    · have h0 : ¬ (r.made = false ∨ r.e ≠ 0) := by simp [hm]; simpa using h1
      refine sh ?_
      refine cS (fun h2 => ?_) (fun h2 => ?_)
      · rw [Rd.take, if_neg h0, if_pos h2] at hq
        subst hq
        refine sh ?_
        exact rM [0]
      · refine sh ?_
        refine cS (fun h3 => ?_) (fun h3 => ?_)
        · rw [Rd.take, if_neg h0, if_neg (by omega), if_pos (by simpa using h3)] at hq
          subst hq
          refine sh ?_
          exact rM [0]
        · rw [Rd.take, if_neg h0, if_neg (by omega), if_neg (by simpa using h3)] at hq
          subst hq
          refine sh ?_
          refine asub_eq (by exact slc8_take _ _) ?_
          refine sh ?_
          refine asub_eq (by exact slc8_drop _ _) ?_
          refine sh ?_
          exact rM [0]
def Rd.num (r : Rd) (w : Int) : Nat × Rd := let t := r.take (if w < 1 ∨ 8 < w then -1 else w); (le t.1, t.2)
theorem take_len (r : Rd) (w : Int) (h : w ≤ 8) : (r.take w).1.length ≤ 8 := by
  unfold Rd.take
  split
  · simp
  · split
    · simp
    · split
      · simp
      · simp only [List.length_take]
        omega
theorem num_c {R : Env} (h : N57 R) (r : Rd) (w : Int) : R.Mc 57 [.loc 0 1 0 0, .int .i64 w] (rdM R r) (.int .u64 (r.num w).1) (rdM R (r.num w).2) 1 :=
  h.o57.enterM 100 1 rfl rfl rfl fun X bb hfit hp => by
    have e1 : w < 1 ∨ 8 < w → r.num w = (le (r.take (-1)).1, (r.take (-1)).2) := fun hw => by unfold Rd.num; rw [if_pos hw]
    have e2 : ¬ (w < 1 ∨ 8 < w) → r.num w = (le (r.take w).1, (r.take w).2) := fun hw => by unfold Rd.num; rw [if_neg hw]
    generalize hq : r.num w = q at e1 e2 ⊢
    refine sh ?_
    refine cS (fun h1 => ?_) (fun h1 => ?_)
    · rw [e1 (.inl h1)]
      refine sh ?_
      refine cM false [0] (take_c h.n59 r (-1)) ?_
      repeat ((intro _u; clear _u); first | refine eK ?_ | refine eP ?_)
      have hlen := take_len r (-1) (by decide)
      generalize r.take (-1) = t at hlen ⊢
      refine sh ?_
      refine lPa 100 (fun i : Nat => i ≤ t.1.length) (fun i => ⟨[(5, .int .u64 (le (t.1.take i))), (16, .isl 1 (slc8 t.1)), (17, .int .i64 t.1.length), (18, .int .i64 i)], rdM R t.2, 1⟩) (fun i => t.1.length - i) (0) ?_ ?_
      · exact Nat.zero_le _
      · intro i hi
        dsimp only
        refine sh ?_
        refine cS (fun h5 => ?_) (fun h5 => ?_)
        · obtain ⟨x, hx⟩ : ∃ u_, t.1[i]? = some u_ := ⟨_, List.getElem?_eq_getElem (by first | omega | (simp <;> omega))⟩
          refine sh ?_
          refine eget_map hx ?_
          refine st ?_
          intro _u; clear _u
          refine iwr_in (k := .u64) (by have := x.toNat_lt; simp only [inI]; omega) ?_
          refine sh ?_
          have hil : (t.1.take i).length = i := by simp; omega
          have hle := le_lt (t.1.take i)
          rw [hil] at hle
          rw [or_byte hle x.toNat_lt (by omega)]
          refine nX (i + 1) ?_ ?_ ⟨_, hp, rfl⟩ ?_ ?_
          · omega
          · omega
          · all_goals repeat' (first | exact True.intro | refine And.intro ?_ ?_ | (intro _u; clear _u) | (with_reducible first | refine eM ?_ ?_ | refine eF ?_ ?_ ?_ | refine eN ?_ | refine eL ?_ ?_ ?_ | refine eA ?_ ?_ | refine IWk.mk ⟨_, hp, rfl⟩ ?_ ?_) | refine IWk.mk ⟨_, hp, rfl⟩ ?_ ?_)
            all_goals first | with_reducible rfl | omega | exact Or.inl (by decide) | (simp; done) | rfl | skip
            rw [take_succ_get hx, le_snoc, hil]
          · all_goals repeat' (first | exact True.intro | refine And.intro ?_ ?_ | (intro _u; clear _u) | (with_reducible first | refine eM ?_ ?_ | refine eF ?_ ?_ ?_ | refine eN ?_ | refine eL ?_ ?_ ?_ | refine eA ?_ ?_ | refine IWk.mk ⟨_, hp, rfl⟩ ?_ ?_) | refine IWk.mk ⟨_, hp, rfl⟩ ?_ ?_)
            all_goals first | with_reducible rfl | omega | exact Or.inl (by decide) | (simp; done) | rfl | skip
        · have hti : t.1.take i = t.1 := List.take_of_length_le (by omega)
          rw [hti]
          refine sh ?_
          exact rM [0]
    · refine sh ?_
      refine cS (fun h2 => ?_) (fun h2 => ?_)
      · rw [e1 (.inr h2)]
        refine sh ?_
        refine cM false [0] (take_c h.n59 r (-1)) ?_
        repeat ((intro _u; clear _u); first | refine eK ?_ | refine eP ?_)
        have hlen := take_len r (-1) (by decide)
        generalize r.take (-1) = t at hlen ⊢
        refine sh ?_
        refine lPa 100 (fun i : Nat => i ≤ t.1.length) (fun i => ⟨[(5, .int .u64 (le (t.1.take i))), (16, .isl 1 (slc8 t.1)), (17, .int .i64 t.1.length), (18, .int .i64 i)], rdM R t.2, 1⟩) (fun i => t.1.length - i) (0) ?_ ?_
        · exact Nat.zero_le _
        · intro i hi
          dsimp only
          refine sh ?_
          refine cS (fun h5 => ?_) (fun h5 => ?_)
          · obtain ⟨x, hx⟩ : ∃ u_, t.1[i]? = some u_ := ⟨_, List.getElem?_eq_getElem (by first | omega | (simp <;> omega))⟩
            refine sh ?_
            refine eget_map hx ?_
            refine st ?_
            intro _u; clear _u
            refine iwr_in (k := .u64) (by have := x.toNat_lt; simp only [inI]; omega) ?_
            refine sh ?_
            have hil : (t.1.take i).length = i := by simp; omega
            have hle := le_lt (t.1.take i)
            rw [hil] at hle
            rw [or_byte hle x.toNat_lt (by omega)]
            refine nX (i + 1) ?_ ?_ ⟨_, hp, rfl⟩ ?_ ?_
            · omega
            · omega
            · all_goals repeat' (first | exact True.intro | refine And.intro ?_ ?_ | (intro _u; clear _u) | (with_reducible first | refine eM ?_ ?_ | refine eF ?_ ?_ ?_ | refine eN ?_ | refine eL ?_ ?_ ?_ | refine eA ?_ ?_ | refine IWk.mk ⟨_, hp, rfl⟩ ?_ ?_) | refine IWk.mk ⟨_, hp, rfl⟩ ?_ ?_)
              all_goals first | with_reducible rfl | omega | exact Or.inl (by decide) | (simp; done) | rfl | skip
              rw [take_succ_get hx, le_snoc, hil]
            · all_goals repeat' (first | exact True.intro | refine And.intro ?_ ?_ | (intro _u; clear _u) | (with_reducible first | refine eM ?_ ?_ | refine eF ?_ ?_ ?_ | refine eN ?_ | refine eL ?_ ?_ ?_ | refine eA ?_ ?_ | refine IWk.mk ⟨_, hp, rfl⟩ ?_ ?_) | refine IWk.mk ⟨_, hp, rfl⟩ ?_ ?_)
              all_goals first | with_reducible rfl | omega | exact Or.inl (by decide) | (simp; done) | rfl | skip
          · have hti : t.1.take i = t.1 := List.take_of_length_le (by omega)
            rw [hti]
            refine sh ?_
            exact rM [0]
      · rw [e2 (by omega)]
        refine sh ?_
        refine cM false [0] (take_c h.n59 r w) ?_
        repeat ((intro _u; clear _u); first | refine eK ?_ | refine eP ?_)
        have hlen := take_len r w h2
        generalize r.take w = t at hlen ⊢
        refine sh ?_
        refine lPa 100 (fun i : Nat => i ≤ t.1.length) (fun i => ⟨[(5, .int .u64 (le (t.1.take i))), (16, .isl 1 (slc8 t.1)), (17, .int .i64 t.1.length), (18, .int .i64 i)], rdM R t.2, 1⟩) (fun i => t.1.length - i) (0) ?_ ?_
        · exact Nat.zero_le _
        · intro i hi
          dsimp only
          refine sh ?_
          refine cS (fun h5 => ?_) (fun h5 => ?_)
          · obtain ⟨x, hx⟩ : ∃ u_, t.1[i]? = some u_ := ⟨_, List.getElem?_eq_getElem (by first | omega | (simp <;> omega))⟩
            refine sh ?_
            refine eget_map hx ?_
            refine st ?_
            intro _u; clear _u
            refine iwr_in (k := .u64) (by have := x.toNat_lt; simp only [inI]; omega) ?_
            refine sh ?_
            have hil : (t.1.take i).length = i := by simp; omega
            have hle := le_lt (t.1.take i)
            rw [hil] at hle
            rw [or_byte hle x.toNat_lt (by omega)]
            refine nX (i + 1) ?_ ?_ ⟨_, hp, rfl⟩ ?_ ?_
            · omega
            · omega
            · all_goals repeat' (first | exact True.intro | refine And.intro ?_ ?_ | (intro _u; clear _u) | (with_reducible first | refine eM ?_ ?_ | refine eF ?_ ?_ ?_ | refine eN ?_ | refine eL ?_ ?_ ?_ | refine eA ?_ ?_ | refine IWk.mk ⟨_, hp, rfl⟩ ?_ ?_) | refine IWk.mk ⟨_, hp, rfl⟩ ?_ ?_)
              all_goals first | with_reducible rfl | omega | exact Or.inl (by decide) | (simp; done) | rfl | skip
              rw [take_succ_get hx, le_snoc, hil]
            · all_goals repeat' (first | exact True.intro | refine And.intro ?_ ?_ | (intro _u; clear _u) | (with_reducible first | refine eM ?_ ?_ | refine eF ?_ ?_ ?_ | refine eN ?_ | refine eL ?_ ?_ ?_ | refine eA ?_ ?_ | refine IWk.mk ⟨_, hp, rfl⟩ ?_ ?_) | refine IWk.mk ⟨_, hp, rfl⟩ ?_ ?_)
              all_goals first | with_reducible rfl | omega | exact Or.inl (by decide) | (simp; done) | rfl | skip
          · have hti : t.1.take i = t.1 := List.take_of_length_le (by omega)
            rw [hti]
            refine sh ?_
            exact rM [0]
def sx (w : Int) (n : Nat) : Int := if 2 * n < 256 ^ w.toNat then n else n - 256 ^ w.toNat
def Rd.int (r : Rd) (w : Int) : Int × Rd := (if w < 1 ∨ 8 < w then 0 else sx w (r.num w).1, (r.num w).2)
theorem num_lt (r : Rd) {w : Int} (h1 : 1 ≤ w) (h2 : w ≤ 8) : (r.num w).1 < 256 ^ w.toNat := by
  unfold Rd.num
  rw [if_neg (by omega)]
  have h3 := le_lt (r.take w).1
  have h4 : (r.take w).1.length ≤ w.toNat := by
    unfold Rd.take
    split
    · simp
    · split
      · simp
      · split
        · simp
        · simp only [List.length_take]
          omega
  exact Nat.lt_of_lt_of_le h3 (Nat.pow_le_pow_right (by decide) h4)
theorem sx_shr {w : Int} {n : Nat} (h1 : 1 ≤ w) (h2 : w ≤ 8) (hn : n < 256 ^ w.toNat) : shrI .i64 (shlI .i64 (wr .i64 n) (64 - 8 * w)) (64 - 8 * w) = sx w n := by
  unfold sx
  obtain h | h | h | h | h | h | h | h : w = 1 ∨ w = 2 ∨ w = 3 ∨ w = 4 ∨ w = 5 ∨ w = 6 ∨ w = 7 ∨ w = 8 := by omega
  all_goals subst h
  all_goals (simp only [wr, shrI, shlI, IntKind.wrap, IntKind.bits, IntKind.signed]; simp [Int.fdiv_eq_ediv] at hn ⊢; split <;> omega)
theorem int_c {R : Env} (h : N76 R) (r : Rd) (w : Int) : R.Mc 76 [.loc 0 1 0 0, .int .i64 w] (rdM R r) (.int .i64 (r.int w).1) (rdM R (r.int w).2) 1 :=
  h.o76.enterM 100 1 rfl rfl rfl fun X bb hfit hp => by
    refine sh ?_
    refine cM false [0] (num_c h.n57 r w) ?_
    repeat ((intro _u; clear _u); first | refine eK ?_ | refine eP ?_)
    unfold Rd.int
    refine sh ?_
    refine cS (fun h1 => ?_) (fun h1 => ?_)
    · rw [if_pos (.inl h1)]
      refine sh ?_
      exact rM [0]
    · refine sh ?_
      refine cS (fun h2 => ?_) (fun h2 => ?_)
      · rw [if_pos (.inr h2)]
        refine sh ?_
        exact rM [0]
      · rw [if_neg (by omega)]
        refine sh ?_
        refine iwr_any ?_
        refine sh ?_
        refine rM [0] ?_
        all_goals repeat' (first | exact True.intro | refine And.intro ?_ ?_ | (intro _u; clear _u) | (with_reducible first | refine eM ?_ ?_ | refine eF ?_ ?_ ?_ | refine eN ?_ | refine eL ?_ ?_ ?_ | refine eA ?_ ?_ | refine IWk.mk ⟨_, hp, rfl⟩ ?_ ?_) | refine IWk.mk ⟨_, hp, rfl⟩ ?_ ?_)
        all_goals first | with_reducible rfl | omega | exact Or.inl (by decide) | (simp; done) | rfl | skip
        exact sx_shr h1 h2 (num_lt r h1 h2)
def Rd.err (r : Rd) : Int := if r.made = false then 1 else r.e
theorem err_c {R : Env} (h : N65 R) (r : Rd) : R.Mc 65 [.loc 0 1 0 0] (rdM R r) (.int .i64 r.err) (rdM R r) 1 :=
  h.o65.enterM 60 1 rfl rfl rfl fun X bb hfit hp => by
    refine sh ?_
    refine cM false [0] (none_c h.n64 r) ?_
    repeat ((intro _u; clear _u); first | refine eK ?_ | refine eP ?_)
    unfold Rd.err
    cases hm : r.made with
    | false =>
      refine sh ?_
      exact rM [0]
    | true =>
      refine sh ?_
      exact rM [0]
theorem err_n {R : Env} (h : N65 R) : R.Pc 65 [.nilp] (.int .i64 1) :=
  h.o65.enter 60 rfl fun X bb hfit hp => by
    refine sh ?_
    refine ICall.pure h.n64.o64.hb (none_n h.n64) rfl ?_
    refine sh ?_
    exact rT
def Rd.fin (r : Rd) : Int := if r.err ≠ 0 then r.err else if 0 < r.l.length then 5 else 0
theorem end_c {R : Env} (h : N60 R) (r : Rd) : R.Mc 60 [.loc 0 1 0 0] (rdM R r) (.int .i64 r.fin) (rdM R r) 1 :=
  h.o60.enterM 60 1 rfl rfl rfl fun X bb hfit hp => by
    refine sh ?_
    refine cM false [0] (err_c h.n65 r) ?_
    repeat ((intro _u; clear _u); first | refine eK ?_ | refine eP ?_)
    unfold Rd.fin
    refine sh ?_
    refine cS (fun h1 => ?_) (fun h1 => ?_)
    · rw [if_pos (by simpa using h1)]
      refine sh ?_
      exact rM [0]
    · rw [if_neg (by simpa using h1)]
      refine sh ?_
      refine cS (fun h2 => ?_) (fun h2 => ?_)
      · rw [if_pos (by simpa using h2)]
        refine sh ?_
        exact rM [0]
      · rw [if_neg (by simpa using h2)]
        refine sh ?_
        exact rM [0]
theorem take_n {R : Env} (h : N59 R) (n : Int) : R.Pc 59 [.nilp, .int .i64 n] .nils :=
  h.o59.enter 100 rfl fun X bb hfit hp => by
    refine sh ?_
    refine ICall.pure h.n64.o64.hb (none_n h.n64) rfl ?_
    refine sh ?_
    exact rT
theorem num_n {R : Env} (h : N57 R) : R.Pc 57 [.nilp, .int .i64 1] (.int .u64 0) :=
  h.o57.enter 100 rfl fun X bb hfit hp => by
    refine sh ?_
    refine acnd_f (by decide) ?_
    refine sh ?_
    refine acnd_f (by decide) ?_
    refine sh ?_
    refine ICall.pure h.n59.o59.hb (take_n h.n59 1) rfl ?_
    refine sh ?_
    refine ILoop.one 60 ?_
    refine sh ?_
    refine acnd_f (by decide) ?_
    refine sh ?_
    exact rT
end Go.UM

namespace Go.UM
open Go.AM
set_option maxRecDepth 4000
theorem pow_le8 {w : Int} (h : w ≤ 8) : (256 : Int) ^ w.toNat ≤ 18446744073709551616 := by
  have : (256 : Nat) ^ w.toNat ≤ 256 ^ 8 := Nat.pow_le_pow_right (by decide) (by omega)
  have h2 : ((256 : Int) ^ w.toNat) = ((256 ^ w.toNat : Nat) : Int) := by rw [Int.natCast_pow]; rfl
  omega
theorem pow_ge1 (n : Nat) : (1 : Int) ≤ 256 ^ n := Int.pow_pos (by decide)
theorem most_c {R : Env} (h : N63 R) (w : Int) (hw : w ≤ 8) : R.Pc 63 [.int .i64 w] (.int .u64 (256 ^ w.toNat - 1)) :=
  h.o63.enter 100 rfl fun X bb hfit hp => by
    refine sh ?_
    refine lPa 100 (fun i : Nat => i ≤ w.toNat) (fun i => ⟨[(0, .int .i64 w), (3, .int .u64 (256 ^ i - 1)), (4, .int .i64 i)], [], 0⟩) (fun i => w.toNat - i) (0) ?_ ?_
    · exact Nat.zero_le _
    · intro i hi
      dsimp only
      refine sh ?_
      refine cS (fun h1 => ?_) (fun h1 => ?_)
      · have hp8 : (256 : Int) ^ (i + 1) ≤ 18446744073709551616 := by
          have := pow_le8 (w := (i + 1 : Nat)) (by omega)
          simpa using this
        rw [Int.pow_succ] at hp8
        have hp1 := pow_ge1 i
        refine sh ?_
        refine nXa (i + 1) ?_ ?_
        · omega
        · omega
      · refine sh ?_
        refine rT ?_
        all_goals repeat' (first | exact True.intro | refine And.intro ?_ ?_ | (intro _u; clear _u) | (with_reducible first | refine eM ?_ ?_ | refine eF ?_ ?_ ?_ | refine eN ?_ | refine eL ?_ ?_ ?_ | refine eA ?_ ?_ | refine IWk.mk ⟨_, hp, rfl⟩ ?_ ?_) | refine IWk.mk ⟨_, hp, rfl⟩ ?_ ?_)
        all_goals first | with_reducible rfl | omega | exact Or.inl (by decide) | (simp; done) | rfl | skip
        rw [show i = w.toNat by omega]
theorem rput_c {R : Env} (h : N55 R) (b : List UInt8) (w : Int) (n : List Int) (hl : b.length + 8 * n.length ≤ 1073741824) (hn : ∀ x ∈ n, 0 ≤ x ∧ x ≤ 18446744073709551615) :
    R.Mc 55 [.isl 1 (slc8 b), .int .i64 w, .isl 1 (slcK .u64 n)] [] (.tup [.osl 0 (puts b w n).1.length, .int .i64 (puts b w n).2]) [(0, .arr (R.ty 4) 1 (slc8 (puts b w n).1))] 1 :=
  h.o55.enterM 100 0 rfl rfl rfl fun X bb hfit hp => by
    generalize hq : puts b w n = q
    refine sh ?_
    refine cS (fun h1 => ?_) (fun h1 => ?_)
    · rw [puts, if_pos (.inl h1)] at hq
      subst hq
      refine sh ?_
      exact rM [50]
    · refine sh ?_
      refine cS (fun h2 => ?_) (fun h2 => ?_)
      · rw [puts, if_pos (.inr h2)] at hq
        subst hq
        refine sh ?_
        exact rM [50]
      · refine sh ?_
        refine lPa 100 (fun k : Nat => k ≤ n.length ∧ (n.take k).any (fun x => decide (256 ^ w.toNat ≤ x)) = false) (fun k => ⟨[(1, .int .i64 w), (2, .isl 1 (slcK .u64 n)), (8, .osl 0 (b ++ (n.take k).flatMap (enc w.toNat)).length), (9, .int .i64 k)], [(0, .arr (R.ty 4) 1 (slc8 (b ++ (n.take k).flatMap (enc w.toNat))))], 1⟩) (fun k => n.length - k) (0) ?_ ?_
        · exact ⟨Nat.zero_le _, by simp⟩
        · intro k hk
          dsimp only
          refine sh ?_
          refine cS (fun h3 => ?_) (fun h3 => ?_)
          · obtain ⟨x, hx⟩ : ∃ u_, n[k]? = some u_ := ⟨_, List.getElem?_eq_getElem (by first | omega | (simp <;> omega))⟩
            refine sh ?_
            refine eget_map hx ?_
            have hxk := hx
            have hx := hn x (List.mem_of_getElem? hxk)
            refine sh ?_
            refine ICall.pure h.n63.o63.hb (most_c h.n63 w h2) rfl ?_
            refine sh ?_
            refine cS (fun h5 => ?_) (fun h5 => ?_)
            · rw [puts_bad (by omega) (by omega) (List.mem_of_getElem? hxk) (by omega)] at hq
              subst hq
              refine sh ?_
              exact rM [50]
            · have hnb : ¬ 256 ^ w.toNat ≤ x := by omega
              refine sh ?_
              refine eget_map hxk ?_
              refine sh ?_
              refine lPa 100 (fun i : Nat => (i : Int) ≤ w) (fun i => ⟨[(1, .int .i64 w), (2, .isl 1 (slcK .u64 n)), (8, .osl 0 (b ++ (n.take k).flatMap (enc w.toNat) ++ enc i x).length), (9, .int .i64 k), (10, .int .u64 (x / 256 ^ i)), (11, .int .i64 i)], [(0, .arr (R.ty 4) 1 (slc8 (b ++ (n.take k).flatMap (enc w.toNat) ++ enc i x)))], 1⟩) (fun i => w.toNat - i) (0) ?_ ?_
              · show (0 : Int) ≤ w
                omega
              · intro i hi
                dsimp only
                refine sh ?_
                refine cS (fun h6 => ?_) (fun h6 => ?_)
                · refine sh ?_
                  refine iwr_any ?_
                  refine sh ?_
                  refine ⟨by rw [slc8_length]; exact put_room hl h2 h1 h3 h6, ?_⟩
                  have hxi : 0 ≤ x / 256 ^ i := Int.ediv_nonneg hx.1 (by have := pow_ge1 i; omega)
                  have hxl : x / 256 ^ i ≤ x := Int.ediv_le_self _ hx.1
                  refine sh ?_
                  rw [Int.tdiv_eq_ediv_of_nonneg hxi]
                  refine iwr_in (by simp only [inI]; omega) ?_
                  refine sh ?_
                  refine nX (i + 1) ?_ ?_ ⟨_, hp, rfl⟩ ?_ ?_
                  · omega
                  · omega
                  · all_goals repeat' (first | exact True.intro | refine And.intro ?_ ?_ | (intro _u; clear _u) | (with_reducible first | refine eM ?_ ?_ | refine eF ?_ ?_ ?_ | refine eN ?_ | refine eL ?_ ?_ ?_ | refine eA ?_ ?_ | refine IWk.mk ⟨_, hp, rfl⟩ ?_ ?_) | refine IWk.mk ⟨_, hp, rfl⟩ ?_ ?_)
                    all_goals first | with_reducible rfl | omega | exact Or.inl (by decide) | (simp; done) | rfl | skip
                    rw [Int.pow_succ, Int.ediv_ediv_of_nonneg (by have := pow_ge1 i; omega)]
                  · all_goals repeat' (first | exact True.intro | refine And.intro ?_ ?_ | (intro _u; clear _u) | (with_reducible first | refine eM ?_ ?_ | refine eF ?_ ?_ ?_ | refine eN ?_ | refine eL ?_ ?_ ?_ | refine eA ?_ ?_ | refine IWk.mk ⟨_, hp, rfl⟩ ?_ ?_) | refine IWk.mk ⟨_, hp, rfl⟩ ?_ ?_)
                    all_goals first | with_reducible rfl | omega | exact Or.inl (by decide) | (simp; done) | rfl | skip
                    simp [enc_succ, u8_tmod hxi]
                · refine sh ?_
                  refine nX (k + 1) ?_ ?_ ⟨_, hp, rfl⟩ ?_ ?_
                  · refine ⟨by omega, ?_⟩
                    rw [any_take_succ hxk, hk.2, decide_eq_false hnb]; rfl
                  · omega
                  · all_goals repeat' (first | exact True.intro | refine And.intro ?_ ?_ | (intro _u; clear _u) | (with_reducible first | refine eM ?_ ?_ | refine eF ?_ ?_ ?_ | refine eN ?_ | refine eL ?_ ?_ ?_ | refine eA ?_ ?_ | refine IWk.mk ⟨_, hp, rfl⟩ ?_ ?_) | refine IWk.mk ⟨_, hp, rfl⟩ ?_ ?_)
                    all_goals first | with_reducible rfl | omega | exact Or.inl (by decide) | (simp; done) | rfl | skip
                    rw [take_succ_get hxk, show i = w.toNat by omega]; simp
                  · all_goals repeat' (first | exact True.intro | refine And.intro ?_ ?_ | (intro _u; clear _u) | (with_reducible first | refine eM ?_ ?_ | refine eF ?_ ?_ ?_ | refine eN ?_ | refine eL ?_ ?_ ?_ | refine eA ?_ ?_ | refine IWk.mk ⟨_, hp, rfl⟩ ?_ ?_) | refine IWk.mk ⟨_, hp, rfl⟩ ?_ ?_)
                    all_goals first | with_reducible rfl | omega | exact Or.inl (by decide) | (simp; done) | rfl | skip
                    rw [take_succ_get hxk, show i = w.toNat by omega]; simp
          · have hkn : n.take k = n := List.take_of_length_le (by omega)
            rw [hkn] at hk ⊢
            rw [puts_ok (by omega) (by omega) hk.2] at hq
            subst hq
            refine sh ?_
            exact rM [0]
theorem half_eq {w : Int} (h1 : 1 ≤ w) (h2 : w ≤ 8) : (256 ^ w.toNat - 1 : Int) / 2 = 256 ^ w.toNat / 2 - 1 := by
  obtain h | h | h | h | h | h | h | h : w = 1 ∨ w = 2 ∨ w = 3 ∨ w = 4 ∨ w = 5 ∨ w = 6 ∨ w = 7 ∨ w = 8 := by omega
  all_goals (subst h; decide)
theorem half_le {w : Int} (h1 : 1 ≤ w) (h2 : w ≤ 8) : (256 ^ w.toNat : Int) / 2 ≤ 9223372036854775808 ∧ (128 : Int) ≤ 256 ^ w.toNat / 2 ∧ (256 ^ w.toNat : Int) = 2 * (256 ^ w.toNat / 2) := by
  obtain h | h | h | h | h | h | h | h : w = 1 ∨ w = 2 ∨ w = 3 ∨ w = 4 ∨ w = 5 ∨ w = 6 ∨ w = 7 ∨ w = 8 := by omega
  all_goals (subst h; decide)
theorem rsigned_c {R : Env} (h : N72 R) (b : List UInt8) (w : Int) (n : List Int) (hl : b.length + 8 * n.length ≤ 1073741824) (hn : ∀ x ∈ n, inI .i64 x) :
    R.Mc 72 [.isl 1 (slc8 b), .int .i64 w, .isl 1 (slcK .i64 n)] [] (.tup [.osl 0 (signs b w n).1.length, .int .i64 (signs b w n).2]) [(0, .arr (R.ty 4) 1 (slc8 (signs b w n).1))] 1 :=
  h.o72.enterM 100 0 rfl rfl rfl fun X bb hfit hp => by
    generalize hq : signs b w n = q
    refine sh ?_
    refine cS (fun h1 => ?_) (fun h1 => ?_)
    · rw [signs, if_pos (.inl h1)] at hq
      subst hq
      refine sh ?_
      exact rM [50]
    · refine sh ?_
      refine cS (fun h2 => ?_) (fun h2 => ?_)
      · rw [signs, if_pos (.inr h2)] at hq
        subst hq
        refine sh ?_
        exact rM [50]
      · refine sh ?_
        refine ICall.pure h.n63.o63.hb (most_c h.n63 w h2) rfl ?_
        have hh := half_le h1 h2
        refine sh ?_
        rw [Int.tdiv_eq_ediv_of_nonneg (by omega), half_eq h1 h2]
        refine iwr_in (by simp only [inI]; omega) ?_
        refine sh ?_
        refine lPa 100 (fun k : Nat => k ≤ n.length ∧ (n.take k).any (fun x => decide (x < -(256 ^ w.toNat / 2)) || decide (256 ^ w.toNat / 2 ≤ x)) = false) (fun k => ⟨[(0, .isl 1 (slc8 b)), (1, .int .i64 w), (2, .isl 1 (slcK .i64 n)), (8, .int .i64 (256 ^ w.toNat / 2 - 1)), (9, .osl 0 ((n.take k).map fun x => x % 256 ^ w.toNat).length), (10, .int .i64 k)], [(0, .arr (R.ty 6) 1 (slcK .u64 ((n.take k).map fun x => x % 256 ^ w.toNat)))], 1⟩) (fun k => n.length - k) (0) ?_ ?_
        · exact ⟨Nat.zero_le _, by simp⟩
        · intro k hk
          dsimp only
          refine sh ?_
          refine cS (fun h3 => ?_) (fun h3 => ?_)
          · obtain ⟨x, hx⟩ : ∃ u_, n[k]? = some u_ := ⟨_, List.getElem?_eq_getElem (by first | omega | (simp <;> omega))⟩
            refine sh ?_
            refine eget_map hx ?_
            have hxk := hx
            have hx := hn x (List.mem_of_getElem? hxk)
            simp only [inI] at hx
            refine sh ?_
            refine cS (fun h4 => ?_) (fun h4 => ?_)
            · rw [signs_bad (by omega) (by omega) (List.mem_of_getElem? hxk) (by omega)] at hq
              subst hq
              refine sh ?_
              exact rM [50]
            · refine sh ?_
              refine eget_map hxk ?_
              refine sh ?_
              refine cS (fun h5 => ?_) (fun h5 => ?_)
              · rw [signs_bad (by omega) (by omega) (List.mem_of_getElem? hxk) (by omega)] at hq
                subst hq
                refine sh ?_
                exact rM [50]
              · have hok : (n.take (k + 1)).any (fun x => decide (x < -(256 ^ w.toNat / 2)) || decide (256 ^ w.toNat / 2 ≤ x)) = false := by
                  rw [any_take_succ hxk, hk.2]
                  simp only [Bool.false_or, Bool.or_eq_false_iff, decide_eq_false_iff_not]
                  omega
                refine sh ?_
                refine eget_map hxk ?_
                refine sh ?_
                refine iwr_any ?_
                refine sh ?_
                refine eget_map hxk ?_
                refine sh ?_
                refine cS (fun h6 => ?_) (fun h6 => ?_)
                · refine sh ?_
                  refine ICall.pure h.n63.o63.hb (most_c h.n63 w h2) rfl ?_
                  refine sh ?_
                  refine eget_map hxk ?_
                  have hv : x % 256 ^ w.toNat = 256 ^ w.toNat - 1 - (0 - (x + 1)) := by
                    rw [← Int.add_emod_right, Int.emod_eq_of_lt (by omega) (by omega)]
                    omega
                  refine sh ?_
                  refine nX (k + 1) ?_ ?_ ⟨_, hp, rfl⟩ ?_ ?_
                  · exact ⟨by omega, hok⟩
                  · omega
                  · all_goals repeat' (first | exact True.intro | refine And.intro ?_ ?_ | (intro _u; clear _u) | (with_reducible first | refine eM ?_ ?_ | refine eF ?_ ?_ ?_ | refine eN ?_ | refine eL ?_ ?_ ?_ | refine eA ?_ ?_ | refine IWk.mk ⟨_, hp, rfl⟩ ?_ ?_) | refine IWk.mk ⟨_, hp, rfl⟩ ?_ ?_)
                    all_goals first | with_reducible rfl | omega | exact Or.inl (by decide) | (simp; done) | rfl | skip
                    rw [take_succ_get hxk]; simp
                  · all_goals repeat' (first | exact True.intro | refine And.intro ?_ ?_ | (intro _u; clear _u) | (with_reducible first | refine eM ?_ ?_ | refine eF ?_ ?_ ?_ | refine eN ?_ | refine eL ?_ ?_ ?_ | refine eA ?_ ?_ | refine IWk.mk ⟨_, hp, rfl⟩ ?_ ?_) | refine IWk.mk ⟨_, hp, rfl⟩ ?_ ?_)
                    all_goals first | with_reducible rfl | omega | exact Or.inl (by decide) | (simp; done) | rfl | skip
                    rw [take_succ_get hxk]; simp [slcK, hv]
                · have hv : x % 256 ^ w.toNat = wr .u64 x := by
                    rw [Int.emod_eq_of_lt (by omega) (by omega), wr_in (k := .u64) ⟨by omega, by omega⟩]
                  refine sh ?_
                  refine nX (k + 1) ?_ ?_ ⟨_, hp, rfl⟩ ?_ ?_
                  · exact ⟨by omega, hok⟩
                  · omega
                  · all_goals repeat' (first | exact True.intro | refine And.intro ?_ ?_ | (intro _u; clear _u) | (with_reducible first | refine eM ?_ ?_ | refine eF ?_ ?_ ?_ | refine eN ?_ | refine eL ?_ ?_ ?_ | refine eA ?_ ?_ | refine IWk.mk ⟨_, hp, rfl⟩ ?_ ?_) | refine IWk.mk ⟨_, hp, rfl⟩ ?_ ?_)
                    all_goals first | with_reducible rfl | omega | exact Or.inl (by decide) | (simp; done) | rfl | skip
                    rw [take_succ_get hxk]; simp
                  · all_goals repeat' (first | exact True.intro | refine And.intro ?_ ?_ | (intro _u; clear _u) | (with_reducible first | refine eM ?_ ?_ | refine eF ?_ ?_ ?_ | refine eN ?_ | refine eL ?_ ?_ ?_ | refine eA ?_ ?_ | refine IWk.mk ⟨_, hp, rfl⟩ ?_ ?_) | refine IWk.mk ⟨_, hp, rfl⟩ ?_ ?_)
                    all_goals first | with_reducible rfl | omega | exact Or.inl (by decide) | (simp; done) | rfl | skip
                    rw [take_succ_get hxk]; simp [slcK, hv]
          · have hkn : n.take k = n := List.take_of_length_le (by omega)
            rw [hkn] at hk ⊢
            rw [signs_ok (by omega) (by omega) hk.2] at hq
            subst hq
            refine sh ?_
            refine cM true [] (rput_c h.n55 b w (n.map fun x => x % 256 ^ w.toNat) (by simpa using hl) (puts_mod (b := b) (by omega) h2)) ?_
            repeat ((intro _u; clear _u); first | refine eK ?_ | refine eP ?_)
            refine sh ?_
            exact rM [1]
def rrdM (R : Env) (B : List UInt8) (r : Rd) : IMem := [(0, .var (R.ty 8) [.isl 1 (slc8 B), .int .i64 (B.length - r.l.length), .int .i64 r.e])]
theorem rslice {B l : List UInt8} {n : Int} (hB : l = B.drop (B.length - l.length)) (hl : l.length ≤ B.length) (hn : 0 ≤ n) :
    ((slc8 B).take ((B.length : Int) - l.length + n).toNat).drop ((B.length : Int) - l.length + n - n).toNat = slc8 (l.take n.toNat) := by
  rw [slc8_take, slc8_drop, List.drop_take, show ((B.length : Int) - l.length + n - n).toNat = B.length - l.length by omega, ← hB]
  congr 2
  omega
theorem rtake_c {R : Env} (h : N66 R) (B : List UInt8) (r : Rd) (hBm : B.length ≤ 1073741824) (hB : r.l = B.drop (B.length - r.l.length)) (hm : r.made = true) (n : Int) :
    R.Mc 66 [.loc 0 1 0 0, .int .i64 n] (rrdM R B r) (.isl 1 (slc8 (r.take n).1)) (rrdM R B (r.take n).2) 1 :=
  h.o66.enterM 100 1 rfl rfl rfl fun X bb hfit hp => by
    have hBl : r.l.length ≤ B.length := by rw [hB]; simp
    generalize hq : r.take n = q
    refine sh ?_
    refine cS (fun h1 => ?_) (fun h1 => ?_)
    · refine sh ?_
      refine cS (fun h2 => ?_) (fun h2 => ?_)
      · rw [Rd.take, if_neg (by simp [hm, h1]), if_pos h2] at hq
        subst hq
        refine sh ?_
        refine acnd_f (by decide) ?_
        refine sh ?_
        refine acnd_t (by decide) ?_
        refine sh ?_
        exact rM [0]
      · refine sh ?_
        refine acnd_t (by simp [h1]) ?_
        refine sh ?_
        refine cS (fun h3 => ?_) (fun h3 => ?_)
        · rw [Rd.take, if_neg (by simp [hm, h1]), if_neg (by omega), if_pos (by omega)] at hq
          subst hq
          refine sh ?_
          refine acnd_t (by decide) ?_
          refine sh ?_
          exact rM [0]
        · rw [Rd.take, if_neg (by simp [hm, h1]), if_neg (by omega), if_neg (by omega)] at hq
          subst hq
          refine sh ?_
          refine acnd_f (by simp [h1]) ?_
          refine sh ?_
          refine asub_eq (by exact rslice hB hBl (by omega)) ?_
          refine sh ?_
          refine rM [0] ?_
          all_goals repeat' (first | exact True.intro | refine And.intro ?_ ?_ | (intro _u; clear _u) | (with_reducible first | refine eM ?_ ?_ | refine eF ?_ ?_ ?_ | refine eN ?_ | refine eL ?_ ?_ ?_ | refine eA ?_ ?_ | refine IWk.mk ⟨_, hp, rfl⟩ ?_ ?_) | refine IWk.mk ⟨_, hp, rfl⟩ ?_ ?_)
          all_goals first | with_reducible rfl | omega | exact Or.inl (by decide) | (simp; done) | rfl | skip
          simp; omega
    · rw [Rd.take, if_pos (.inr (by simpa using h1))] at hq
      subst hq
      refine sh ?_
      refine acnd_f (by simpa using h1) ?_
      refine sh ?_
      refine acnd_t (by simpa using h1) ?_
      refine sh ?_
      exact rM [0]
structure RdOk (B : List UInt8) (r : Rd) : Prop where
  m : B.length ≤ 1073741824
  s : r.l = B.drop (B.length - r.l.length)
  made : r.made = true
theorem RdOk.len {B : List UInt8} {r : Rd} (h : RdOk B r) : r.l.length ≤ B.length := by rw [h.s]; simp
theorem RdOk.take {B : List UInt8} {r : Rd} (h : RdOk B r) (n : Int) : RdOk B (r.take n).2 := by
  unfold Rd.take
  split
  · exact h
  · split
    · exact ⟨h.m, h.s, h.made⟩
    · split
      · exact ⟨h.m, h.s, h.made⟩
      · refine ⟨h.m, ?_, h.made⟩
        have h1 := h.s
        have h2 := h.len
        simp only [List.length_drop]
        conv => lhs; rw [h1]
        rw [List.drop_drop]
        congr 1
        omega
theorem RdOk.num {B : List UInt8} {r : Rd} (h : RdOk B r) (w : Int) : RdOk B (r.num w).2 := h.take _
theorem RdOk.int {B : List UInt8} {r : Rd} (h : RdOk B r) (w : Int) : RdOk B (r.int w).2 := h.num w
theorem RdOk.err {B : List UInt8} {r : Rd} (h : RdOk B r) (e : Int) : RdOk B { r with e := e } := ⟨h.m, h.s, h.made⟩
theorem RdOk.new {B : List UInt8} (h : B.length ≤ 1073741824) : RdOk B ⟨B, 0, true⟩ := ⟨h, by simp, rfl⟩
theorem le_drop {l : List UInt8} {j : Nat} {c : UInt8} (h : l[j]? = some c) : le (l.drop j) = le (l.drop (j + 1)) * 256 + c.toNat := by
  obtain ⟨hj, rfl⟩ := List.getElem?_eq_some_iff.1 h
  rw [List.drop_eq_getElem_cons hj]
  simp only [le]
  omega
theorem rnum_c {R : Env} (h : N61 R) (B : List UInt8) (r : Rd) (ok : RdOk B r) (w : Int) : R.Mc 61 [.loc 0 1 0 0, .int .i64 w] (rrdM R B r) (.int .u64 (r.num w).1) (rrdM R B (r.num w).2) 1 :=
  h.o61.enterM 100 1 rfl rfl rfl fun X bb hfit hp => by
    have e1 : w < 1 ∨ 8 < w → r.num w = (le (r.take (-1)).1, (r.take (-1)).2) := fun hw => by unfold Rd.num; rw [if_pos hw]
    have e2 : ¬ (w < 1 ∨ 8 < w) → r.num w = (le (r.take w).1, (r.take w).2) := fun hw => by unfold Rd.num; rw [if_neg hw]
    generalize hq : r.num w = q at e1 e2 ⊢
    refine sh ?_
    refine cS (fun h1 => ?_) (fun h1 => ?_)
    · have bad : w < 1 ∨ 8 < w → q = (le (({ r with e := 2 } : Rd).take (max w 0)).1, (({ r with e := 2 } : Rd).take (max w 0)).2) := fun hw => by
        rw [e1 hw]
        simp [Rd.take, ok.made, h1]
      refine sh ?_
      refine cS (fun h2 => ?_) (fun h2 => ?_)
      · rw [bad (.inl h2)]
        refine sh ?_
        refine cM false [0] (rtake_c h.n66 B { r with e := 2 } ok.m ok.s ok.made (max w 0)) ?_
        repeat ((intro _u; clear _u); first | refine eK ?_ | refine eP ?_)
        have hlen : (({ r with e := 2 } : Rd).take (max w 0)).1.length ≤ 8 := by simp [Rd.take]
        generalize ({ r with e := 2 } : Rd).take (max w 0) = t at hlen ⊢
        refine sh ?_
        refine ILoop.inv 100 (fun j : Nat => j ≤ t.1.length) (fun j => ⟨[(5, .isl 1 (slc8 t.1)), (6, .int .u64 (le (t.1.drop j))), (7, .int .i64 (j - 1))], rrdM R B t.2, 1⟩) (fun j => j) (t.1.length) ?_ ⟨⟨_, hp, rfl⟩, ?_, ?_⟩ ?_
        · exact Nat.le_refl _
        · all_goals repeat' (first | exact True.intro | refine And.intro ?_ ?_ | (intro _u; clear _u) | (with_reducible first | refine eM ?_ ?_ | refine eF ?_ ?_ ?_ | refine eN ?_ | refine eL ?_ ?_ ?_ | refine eA ?_ ?_ | refine IWk.mk ⟨_, hp, rfl⟩ ?_ ?_) | refine IWk.mk ⟨_, hp, rfl⟩ ?_ ?_)
          all_goals first | with_reducible rfl | omega | exact Or.inl (by decide) | (simp; done) | rfl | skip
          simp [le]
        · all_goals repeat' (first | exact True.intro | refine And.intro ?_ ?_ | (intro _u; clear _u) | (with_reducible first | refine eM ?_ ?_ | refine eF ?_ ?_ ?_ | refine eN ?_ | refine eL ?_ ?_ ?_ | refine eA ?_ ?_ | refine IWk.mk ⟨_, hp, rfl⟩ ?_ ?_) | refine IWk.mk ⟨_, hp, rfl⟩ ?_ ?_)
          all_goals first | with_reducible rfl | omega | exact Or.inl (by decide) | (simp; done) | rfl | skip
        · intro j hj
          dsimp only
          refine sh ?_
          refine cS (fun h5 => ?_) (fun h5 => ?_)
          · obtain ⟨x, hx⟩ : ∃ x, t.1[j - 1]? = some x := ⟨_, List.getElem?_eq_getElem (by omega)⟩
            have hle := le_lt (t.1.drop j)
            have hdl := le_drop hx
            rw [show j - 1 + 1 = j by omega] at hdl
            have hx8 := x.toNat_lt
            have hpw : 256 ^ (t.1.drop j).length * 256 ≤ 256 ^ 8 := by
              rw [← Nat.pow_succ]
              exact Nat.pow_le_pow_right (by decide) (by simp; omega)
            refine sh ?_
            refine eget_map (i := _) (by rw [show ((j : Int) - 1).toNat = j - 1 by omega]; exact hx) ?_
            refine sh ?_
            refine nXa (j - 1) ?_ ?_
            · omega
            · omega
          · have hj0 : j = 0 := by omega
            subst hj0
            refine sh ?_
            exact rM [0]
      · refine sh ?_
        refine cS (fun h3 => ?_) (fun h3 => ?_)
        · rw [bad (.inr h3)]
          refine sh ?_
          refine cM false [0] (rtake_c h.n66 B { r with e := 2 } ok.m ok.s ok.made (max w 0)) ?_
          repeat ((intro _u; clear _u); first | refine eK ?_ | refine eP ?_)
          have hlen : (({ r with e := 2 } : Rd).take (max w 0)).1.length ≤ 8 := by simp [Rd.take]
          generalize ({ r with e := 2 } : Rd).take (max w 0) = t at hlen ⊢
          refine sh ?_
          refine ILoop.inv 100 (fun j : Nat => j ≤ t.1.length) (fun j => ⟨[(5, .isl 1 (slc8 t.1)), (6, .int .u64 (le (t.1.drop j))), (7, .int .i64 (j - 1))], rrdM R B t.2, 1⟩) (fun j => j) (t.1.length) ?_ ⟨⟨_, hp, rfl⟩, ?_, ?_⟩ ?_
          · exact Nat.le_refl _
          · all_goals repeat' (first | exact True.intro | refine And.intro ?_ ?_ | (intro _u; clear _u) | (with_reducible first | refine eM ?_ ?_ | refine eF ?_ ?_ ?_ | refine eN ?_ | refine eL ?_ ?_ ?_ | refine eA ?_ ?_ | refine IWk.mk ⟨_, hp, rfl⟩ ?_ ?_) | refine IWk.mk ⟨_, hp, rfl⟩ ?_ ?_)
            all_goals first | with_reducible rfl | omega | exact Or.inl (by decide) | (simp; done) | rfl | skip
            simp [le]
          · all_goals repeat' (first | exact True.intro | refine And.intro ?_ ?_ | (intro _u; clear _u) | (with_reducible first | refine eM ?_ ?_ | refine eF ?_ ?_ ?_ | refine eN ?_ | refine eL ?_ ?_ ?_ | refine eA ?_ ?_ | refine IWk.mk ⟨_, hp, rfl⟩ ?_ ?_) | refine IWk.mk ⟨_, hp, rfl⟩ ?_ ?_)
            all_goals first | with_reducible rfl | omega | exact Or.inl (by decide) | (simp; done) | rfl | skip
          · intro j hj
            dsimp only
            refine sh ?_
            refine cS (fun h5 => ?_) (fun h5 => ?_)
            · obtain ⟨x, hx⟩ : ∃ x, t.1[j - 1]? = some x := ⟨_, List.getElem?_eq_getElem (by omega)⟩
              have hle := le_lt (t.1.drop j)
              have hdl := le_drop hx
              rw [show j - 1 + 1 = j by omega] at hdl
              have hx8 := x.toNat_lt
              have hpw : 256 ^ (t.1.drop j).length * 256 ≤ 256 ^ 8 := by
                rw [← Nat.pow_succ]
                exact Nat.pow_le_pow_right (by decide) (by simp; omega)
              refine sh ?_
              refine eget_map (i := _) (by rw [show ((j : Int) - 1).toNat = j - 1 by omega]; exact hx) ?_
              refine sh ?_
              refine nXa (j - 1) ?_ ?_
              · omega
              · omega
            · have hj0 : j = 0 := by omega
              subst hj0
              refine sh ?_
              exact rM [0]
        · rw [e2 (by omega)]
          refine sh ?_
          refine cM false [0] (rtake_c h.n66 B r ok.m ok.s ok.made w) ?_
          repeat ((intro _u; clear _u); first | refine eK ?_ | refine eP ?_)
          have hlen := take_len r w h3
          generalize r.take w = t at hlen ⊢
          refine sh ?_
          refine ILoop.inv 100 (fun j : Nat => j ≤ t.1.length) (fun j => ⟨[(5, .isl 1 (slc8 t.1)), (6, .int .u64 (le (t.1.drop j))), (7, .int .i64 (j - 1))], rrdM R B t.2, 1⟩) (fun j => j) (t.1.length) ?_ ⟨⟨_, hp, rfl⟩, ?_, ?_⟩ ?_
          · exact Nat.le_refl _
          · all_goals repeat' (first | exact True.intro | refine And.intro ?_ ?_ | (intro _u; clear _u) | (with_reducible first | refine eM ?_ ?_ | refine eF ?_ ?_ ?_ | refine eN ?_ | refine eL ?_ ?_ ?_ | refine eA ?_ ?_ | refine IWk.mk ⟨_, hp, rfl⟩ ?_ ?_) | refine IWk.mk ⟨_, hp, rfl⟩ ?_ ?_)
            all_goals first | with_reducible rfl | omega | exact Or.inl (by decide) | (simp; done) | rfl | skip
            simp [le]
          · all_goals repeat' (first | exact True.intro | refine And.intro ?_ ?_ | (intro _u; clear _u) | (with_reducible first | refine eM ?_ ?_ | refine eF ?_ ?_ ?_ | refine eN ?_ | refine eL ?_ ?_ ?_ | refine eA ?_ ?_ | refine IWk.mk ⟨_, hp, rfl⟩ ?_ ?_) | refine IWk.mk ⟨_, hp, rfl⟩ ?_ ?_)
            all_goals first | with_reducible rfl | omega | exact Or.inl (by decide) | (simp; done) | rfl | skip
          · intro j hj
            dsimp only
            refine sh ?_
            refine cS (fun h5 => ?_) (fun h5 => ?_)
            · obtain ⟨x, hx⟩ : ∃ x, t.1[j - 1]? = some x := ⟨_, List.getElem?_eq_getElem (by omega)⟩
              have hle := le_lt (t.1.drop j)
              have hdl := le_drop hx
              rw [show j - 1 + 1 = j by omega] at hdl
              have hx8 := x.toNat_lt
              have hpw : 256 ^ (t.1.drop j).length * 256 ≤ 256 ^ 8 := by
                rw [← Nat.pow_succ]
                exact Nat.pow_le_pow_right (by decide) (by simp; omega)
              refine sh ?_
              refine eget_map (i := _) (by rw [show ((j : Int) - 1).toNat = j - 1 by omega]; exact hx) ?_
              refine sh ?_
              refine nXa (j - 1) ?_ ?_
              · omega
              · omega
            · have hj0 : j = 0 := by omega
              subst hj0
              refine sh ?_
              exact rM [0]
    · have bad : q = (le (r.take (max w 0)).1, (r.take (max w 0)).2) := by
        by_cases hw : w < 1 ∨ 8 < w
        · rw [e1 hw]; simp [Rd.take, h1]
        · rw [e2 hw]; simp [Rd.take, h1]
      rw [bad]
      refine sh ?_
      refine cM false [0] (rtake_c h.n66 B r ok.m ok.s ok.made (max w 0)) ?_
      repeat ((intro _u; clear _u); first | refine eK ?_ | refine eP ?_)
      have hlen : (r.take (max w 0)).1.length ≤ 8 := by simp [Rd.take, h1]
      generalize r.take (max w 0) = t at hlen ⊢
      refine sh ?_
      refine ILoop.inv 100 (fun j : Nat => j ≤ t.1.length) (fun j => ⟨[(5, .isl 1 (slc8 t.1)), (6, .int .u64 (le (t.1.drop j))), (7, .int .i64 (j - 1))], rrdM R B t.2, 1⟩) (fun j => j) (t.1.length) ?_ ⟨⟨_, hp, rfl⟩, ?_, ?_⟩ ?_
      · exact Nat.le_refl _
      · all_goals repeat' (first | exact True.intro | refine And.intro ?_ ?_ | (intro _u; clear _u) | (with_reducible first | refine eM ?_ ?_ | refine eF ?_ ?_ ?_ | refine eN ?_ | refine eL ?_ ?_ ?_ | refine eA ?_ ?_ | refine IWk.mk ⟨_, hp, rfl⟩ ?_ ?_) | refine IWk.mk ⟨_, hp, rfl⟩ ?_ ?_)
        all_goals first | with_reducible rfl | omega | exact Or.inl (by decide) | (simp; done) | rfl | skip
        simp [le]
      · all_goals repeat' (first | exact True.intro | refine And.intro ?_ ?_ | (intro _u; clear _u) | (with_reducible first | refine eM ?_ ?_ | refine eF ?_ ?_ ?_ | refine eN ?_ | refine eL ?_ ?_ ?_ | refine eA ?_ ?_ | refine IWk.mk ⟨_, hp, rfl⟩ ?_ ?_) | refine IWk.mk ⟨_, hp, rfl⟩ ?_ ?_)
        all_goals first | with_reducible rfl | omega | exact Or.inl (by decide) | (simp; done) | rfl | skip
      · intro j hj
        dsimp only
        refine sh ?_
        refine cS (fun h5 => ?_) (fun h5 => ?_)
        · obtain ⟨x, hx⟩ : ∃ x, t.1[j - 1]? = some x := ⟨_, List.getElem?_eq_getElem (by omega)⟩
          have hle := le_lt (t.1.drop j)
          have hdl := le_drop hx
          rw [show j - 1 + 1 = j by omega] at hdl
          have hx8 := x.toNat_lt
          have hpw : 256 ^ (t.1.drop j).length * 256 ≤ 256 ^ 8 := by
            rw [← Nat.pow_succ]
            exact Nat.pow_le_pow_right (by decide) (by simp; omega)
          refine sh ?_
          refine eget_map (i := _) (by rw [show ((j : Int) - 1).toNat = j - 1 by omega]; exact hx) ?_
          refine sh ?_
          refine nXa (j - 1) ?_ ?_
          · omega
          · omega
        · have hj0 : j = 0 := by omega
          subst hj0
          refine sh ?_
          exact rM [0]
theorem rend_c {R : Env} (h : N69 R) (B : List UInt8) (r : Rd) (ok : RdOk B r) : R.Mc 69 [.loc 0 1 0 0] (rrdM R B r) (.int .i64 r.fin) (rrdM R B r) 1 :=
  h.o69.enterM 60 1 rfl rfl rfl fun X bb hfit hp => by
    have h1 := ok.made
    have h2 := ok.len
    have h3 := ok.m
    have h5 : r.err = r.e := by simp [Rd.err, h1]
    unfold Rd.fin
    rw [h5]
    refine sh ?_
    refine cS (fun h4 => ?_) (fun h4 => ?_)
    · rw [if_neg (by simpa using h4)]
      refine sh ?_
      refine cS (fun h6 => ?_) (fun h6 => ?_)
      · rw [if_pos (by omega)]
        refine sh ?_
        exact rM [0]
      · rw [if_neg (by omega)]
        refine sh ?_
        exact rM [0]
    · rw [if_pos (by simpa using h4)]
      refine sh ?_
      exact rM [0]
theorem num_err {r : Rd} {w : Int} (h : (r.num w).2.e ≠ 0) : (r.num w).1 = 0 := by
  unfold Rd.num Rd.take at h ⊢
  dsimp only at h ⊢
  generalize (if w < 1 ∨ 8 < w then (-1 : Int) else w) = v at h ⊢
  by_cases c1 : r.made = false ∨ r.e ≠ 0
  · rw [if_pos c1]; rfl
  · rw [if_neg c1] at h ⊢
    by_cases c2 : v < 0
    · rw [if_pos c2]; rfl
    · rw [if_neg c2] at h ⊢
      by_cases c3 : (r.l.length : Int) < v
      · rw [if_pos c3]; rfl
      · rw [if_neg c3] at h
        exact (c1 (.inr h)).elim
theorem num_bad {r : Rd} {w : Int} (hw : w < 1 ∨ 8 < w) (hm : r.made = true) : (r.num w).2.e ≠ 0 := by
  unfold Rd.num
  rw [if_pos hw]
  unfold Rd.take
  split
  · rename_i h
    rcases h with h | h
    · rw [hm] at h; exact absurd h (by decide)
    · exact h
  · simp
  all_goals simp
theorem rint_c {R : Env} (h : N77 R) (B : List UInt8) (r : Rd) (ok : RdOk B r) (w : Int) : R.Mc 77 [.loc 0 1 0 0, .int .i64 w] (rrdM R B r) (.int .i64 (r.int w).1) (rrdM R B (r.int w).2) 1 :=
  h.o77.enterM 100 1 rfl rfl rfl fun X bb hfit hp => by
    refine sh ?_
    refine cM false [0] (rnum_c h.n61 B r ok w) ?_
    repeat ((intro _u; clear _u); first | refine eK ?_ | refine eP ?_)
    unfold Rd.int
    refine sh ?_
    refine cS (fun h1 => ?_) (fun h1 => ?_)
    · have h2 : (r.num w).1 = 0 := num_err (by simpa using h1)
      by_cases hw : w < 1 ∨ 8 < w
      · rw [if_pos hw]
        refine sh ?_
        exact rM [0]
      · rw [if_neg hw, h2]
        refine sh ?_
        refine rM [0] ?_
        all_goals repeat' (first | exact True.intro | refine And.intro ?_ ?_ | (intro _u; clear _u) | (with_reducible first | refine eM ?_ ?_ | refine eF ?_ ?_ ?_ | refine eN ?_ | refine eL ?_ ?_ ?_ | refine eA ?_ ?_ | refine IWk.mk ⟨_, hp, rfl⟩ ?_ ?_) | refine IWk.mk ⟨_, hp, rfl⟩ ?_ ?_)
        all_goals first | with_reducible rfl | omega | exact Or.inl (by decide) | (simp; done) | rfl | skip
        simp [sx]
    · have hw : ¬ (w < 1 ∨ 8 < w) := fun hw => num_bad hw ok.made (by simpa using h1)
      rw [if_neg hw]
      refine sh ?_
      refine ICall.pure h.n63.o63.hb (most_c h.n63 w (by omega)) rfl ?_
      have hh := half_le (w := w) (by omega) (by omega)
      have hlt := num_lt r (w := w) (by omega) (by omega)
      have e : ((256 : Int) ^ w.toNat) = ((256 ^ w.toNat : Nat) : Int) := by rw [Int.natCast_pow]; rfl
      have hlt' : ((r.num w).1 : Int) < 256 ^ w.toNat := by rw [e]; exact Int.ofNat_lt.2 hlt
      refine sh ?_
      rw [Int.tdiv_eq_ediv_of_nonneg (by omega), half_eq (by omega) (by omega)]
      refine iwr_in (by simp only [inI]; omega) ?_
      refine sh ?_
      refine cS (fun h3 => ?_) (fun h3 => ?_)
      · refine sh ?_
        refine ICall.pure h.n63.o63.hb (most_c h.n63 w (by omega)) rfl ?_
        refine sh ?_
        refine rM [0] ?_
        all_goals repeat' (first | exact True.intro | refine And.intro ?_ ?_ | (intro _u; clear _u) | (with_reducible first | refine eM ?_ ?_ | refine eF ?_ ?_ ?_ | refine eN ?_ | refine eL ?_ ?_ ?_ | refine eA ?_ ?_ | refine IWk.mk ⟨_, hp, rfl⟩ ?_ ?_) | refine IWk.mk ⟨_, hp, rfl⟩ ?_ ?_)
        all_goals first | with_reducible rfl | omega | exact Or.inl (by decide) | (simp; done) | rfl | skip
        unfold sx
        rw [e] at hh h3 ⊢
        generalize 256 ^ w.toNat = P at hh h3 ⊢
        rw [if_neg (by omega)]
        omega
      · refine sh ?_
        refine rM [0] ?_
        all_goals repeat' (first | exact True.intro | refine And.intro ?_ ?_ | (intro _u; clear _u) | (with_reducible first | refine eM ?_ ?_ | refine eF ?_ ?_ ?_ | refine eN ?_ | refine eL ?_ ?_ ?_ | refine eA ?_ ?_ | refine IWk.mk ⟨_, hp, rfl⟩ ?_ ?_) | refine IWk.mk ⟨_, hp, rfl⟩ ?_ ?_)
        all_goals first | with_reducible rfl | omega | exact Or.inl (by decide) | (simp; done) | rfl | skip
        unfold sx
        rw [e] at hh h3 ⊢
        generalize 256 ^ w.toNat = P at hh h3 ⊢
        rw [if_pos (by omega)]
end Go.UM

namespace Go.UM
open Go.AM
set_option maxRecDepth 4000
theorem u8_val (v : Int) : ((u8 v).toNat : Int) = v % 256 := by
  rw [← wr_u8]
  simp only [wr, IntKind.wrap, IntKind.bits, IntKind.signed]
  simp
theorem emod_step {x P : Int} (hP : 0 < P) : x % P + P * (x / P % 256) = x % (P * 256) := by
  have h1 : P * (x / P) + x % P = x := Int.mul_ediv_add_emod x P
  have h2 : 256 * (x / P / 256) + x / P % 256 = x / P := Int.mul_ediv_add_emod (x / P) 256
  have h3 := Int.emod_nonneg x (Int.ne_of_gt hP)
  have h4 := Int.emod_lt_of_pos x hP
  have h5 : 0 ≤ x / P % 256 := Int.emod_nonneg _ (by decide)
  have h6 : x / P % 256 < 256 := Int.emod_lt_of_pos _ (by decide)
  have e : x = (x % P + P * (x / P % 256)) + (P * 256) * (x / P / 256) := by
    have : P * (256 * (x / P / 256) + x / P % 256) + x % P = x := by rw [h2]; exact h1
    rw [Int.mul_add, ← Int.mul_assoc] at this
    omega
  have hb : 0 ≤ P * (x / P % 256) := Int.mul_nonneg (Int.le_of_lt hP) h5
  have hc : P * (x / P % 256) ≤ P * 255 := Int.mul_le_mul_of_nonneg_left (by omega) (Int.le_of_lt hP)
  rw [show x % (P * 256) = ((x % P + P * (x / P % 256)) + (P * 256) * (x / P / 256)) % (P * 256) from congrArg (· % (P * 256)) e, Int.add_mul_emod_self_left]
  exact (Int.emod_eq_of_lt (a := x % P + P * (x / P % 256)) (by omega) (by omega)).symm
theorem le_enc (x : Int) : ∀ w : Nat, ((le (enc w x) : Nat) : Int) = x % 256 ^ w
  | 0 => by simp [le, Int.emod_one]
  | w + 1 => by
    have hp : (0 : Int) < 256 ^ w := by have := pow_ge1 w; omega
    rw [enc_succ, le_snoc, enc_length, Int.natCast_add, Int.natCast_mul, le_enc x w, u8_val, Int.natCast_pow, Int.pow_succ]
    exact emod_step hp
theorem num_enc {w x : Int} {rest : List UInt8} (h1 : 1 ≤ w) (h2 : w ≤ 8) (hx : 0 ≤ x ∧ x < 256 ^ w.toNat) : (⟨enc w.toNat x ++ rest, 0, true⟩ : Rd).num w = (x.toNat, ⟨rest, 0, true⟩) := by
  unfold Rd.num
  rw [if_neg (by omega)]
  unfold Rd.take
  rw [if_neg (by simp), if_neg (by omega), if_neg (by simp; omega)]
  have e1 : (enc w.toNat x ++ rest).take w.toNat = enc w.toNat x := List.take_left' (by simp)
  have e2 : (enc w.toNat x ++ rest).drop w.toNat = rest := List.drop_left' (by simp)
  simp only [e1, e2]
  have h3 := le_enc x w.toNat
  rw [Int.emod_eq_of_lt hx.1 hx.2] at h3
  congr 1
  omega
theorem sx_mod {w x : Int} (h1 : 1 ≤ w) (h2 : w ≤ 8) (hx : ¬ (x < -(256 ^ w.toNat / 2) ∨ 256 ^ w.toNat / 2 ≤ x)) : sx w (x % 256 ^ w.toNat).toNat = x := by
  have hh := half_le h1 h2
  have e : ((256 : Int) ^ w.toNat) = ((256 ^ w.toNat : Nat) : Int) := by rw [Int.natCast_pow]; rfl
  unfold sx
  rw [e] at hh hx ⊢
  generalize 256 ^ w.toNat = P at hh hx ⊢
  by_cases h : 0 ≤ x
  · rw [Int.emod_eq_of_lt h (by omega), if_pos (by omega)]
    omega
  · have : x % (P : Int) = x + P := by
      rw [← Int.add_emod_right, Int.emod_eq_of_lt (by omega) (by omega)]
    rw [this, if_neg (by omega)]
    omega
theorem take_short {r : Rd} {w : Int} (hm : r.made = true) (he : r.e = 0) (h1 : 1 ≤ w) (h2 : w ≤ 8) : (r.num w).2.made = true ∧ ((w ≤ r.l.length ∧ (r.num w).2.e = 0 ∧ ((r.num w).2.l.length : Int) = r.l.length - w) ∨ (r.l.length < w ∧ (r.num w).2.e = 4)) := by
  unfold Rd.num
  rw [if_neg (by omega)]
  unfold Rd.take
  rw [if_neg (by simp [hm, he]), if_neg (by omega)]
  by_cases h : (r.l.length : Int) < w
  · rw [if_pos h]
    exact ⟨hm, .inr ⟨h, rfl⟩⟩
  · rw [if_neg h]
    refine ⟨hm, .inl ⟨by omega, he, ?_⟩⟩
    simp; omega
theorem drop_get {α : Type} {l : List α} {k : Nat} {x : α} (h : l[k]? = some x) : l.drop k = x :: l.drop (k + 1) := by
  obtain ⟨hk, rfl⟩ := List.getElem?_eq_some_iff.1 h
  exact List.drop_eq_getElem_cons hk
theorem puts_in {b : List UInt8} {w : Int} {n : List Int} (h1 : 1 ≤ w) (h2 : w ≤ 8) (h : ∀ x ∈ n, 0 ≤ x ∧ x < 256 ^ w.toNat) : puts b w n = (b ++ n.flatMap (enc w.toNat), 0) :=
  puts_ok h1 h2 (by
    rw [List.any_eq_false]
    intro x hx
    have := h x hx
    simp; omega)
theorem num_take {r : Rd} {w : Int} (h1 : 1 ≤ w) (h2 : w ≤ 8) : r.num w = (le (r.take w).1, (r.take w).2) := by
  unfold Rd.num; rw [if_neg (by omega)]
theorem num_ok {l : List UInt8} {w : Int} (h1 : 1 ≤ w) (h2 : w ≤ 8) (hl : w ≤ l.length) : (⟨l, 0, true⟩ : Rd).num w = (le (l.take w.toNat), ⟨l.drop w.toNat, 0, true⟩) := by
  rw [num_take h1 h2]
  unfold Rd.take
  rw [if_neg (by simp), if_neg (by omega), if_neg (by simpa using hl)]
theorem num1 (c : UInt8) (l : List UInt8) : (⟨c :: l, 0, true⟩ : Rd).num 1 = (c.toNat, ⟨l, 0, true⟩) := by
  rw [num_ok (by omega) (by omega) (by simp; omega)]
  simp [le]
theorem enc_cons (w : Nat) (c : UInt8) (L : Nat) : enc (w + 1) ((c.toNat + 256 * L : Nat) : Int) = c :: enc w L := by
  unfold enc
  rw [List.range_succ_eq_map, List.map_cons, List.map_map]
  congr 1
  · have hc := c.toNat_lt
    have : ((c.toNat + 256 * L : Nat) : Int) / 256 ^ 0 = ((c.toNat + 256 * L : Nat) : Int) := by simp
    rw [this, ← u8_mod, show ((c.toNat + 256 * L : Nat) : Int) % 256 = c.toNat by omega, u8_toNat]
  · apply List.map_congr_left
    intro i _
    simp only [Function.comp_def, Nat.succ_eq_add_one]
    rw [Int.pow_succ', ← Int.ediv_ediv_of_nonneg (show (0 : Int) ≤ 256 by decide), show ((c.toNat + 256 * L : Nat) : Int) / 256 = L by have := c.toNat_lt; omega]
theorem enc_le : ∀ (l : List UInt8), enc l.length (le l) = l
  | [] => rfl
  | c :: l => by
    have : le (c :: l) = c.toNat + 256 * le l := rfl
    rw [this, List.length_cons, enc_cons, enc_le l]
theorem enc_le' {p : List UInt8} {w : Nat} (hp : p.length = w) : enc w (le p) = p := by rw [← hp]; exact enc_le p
structure Fits {α : Type} (f : Rd → α × Rd) (g : α → List UInt8) (ok : α → Prop) : Prop where
  made : ∀ r : Rd, r.made = true → (f r).2.made = true
  good : ∀ r : Rd, ok (f r).1
  back : ∀ r : Rd, r.made = true → (f r).2.e = 0 → r.e = 0 ∧ r.l = g (f r).1 ++ (f r).2.l
  there : ∀ (x : α) (l : List UInt8), ok x → f ⟨g x ++ l, 0, true⟩ = (x, ⟨l, 0, true⟩)
theorem num_fits {w : Int} (h1 : 1 ≤ w) (h2 : w ≤ 8) : Fits (fun r => r.num w) (fun x : Nat => enc w.toNat x) (fun x => x < 256 ^ w.toNat) := by
  refine ⟨fun r hm => ?_, fun r => num_lt r h1 h2, fun r hm he => ?_, fun x l hx => ?_⟩
  · rw [num_take h1 h2]
    unfold Rd.take
    split
    · exact hm
    · split
      · exact hm
      · split <;> exact hm
  · rw [num_take h1 h2] at he ⊢
    unfold Rd.take at he ⊢
    split at he
    · rename_i hh; rcases hh with hh | hh
      · rw [hm] at hh; cases hh
      · exact (hh he).elim
    · rename_i hh
      split at he
      · cases he
      · split at he
        · cases he
        · rename_i h3 h4
          rw [if_neg hh, if_neg h3, if_neg h4]
          simp only [hm, not_or, Decidable.not_not] at hh
          refine ⟨hh.2, ?_⟩
          dsimp only
          rw [enc_le' (by simp; omega), List.take_append_drop]
  · have e : ((256 ^ w.toNat : Nat) : Int) = 256 ^ w.toNat := by rw [Int.natCast_pow]; rfl
    have := num_enc (w := w) (x := (x : Int)) (rest := l) h1 h2 ⟨by omega, by rw [← e]; exact Int.ofNat_lt.2 hx⟩
    simpa using this
def rdN {α : Type} (f : Rd → α × Rd) : Nat → Rd → List α × Rd
  | 0, r => ([], r)
  | n + 1, r => ((rdN f n r).1 ++ [(f (rdN f n r).2).1], (f (rdN f n r).2).2)
theorem rdN_len {α : Type} (f : Rd → α × Rd) (n : Nat) (r : Rd) : (rdN f n r).1.length = n := by
  induction n with
  | zero => rfl
  | succ n ih => simp [rdN, ih]
theorem rdN_cons {α : Type} (f : Rd → α × Rd) (n : Nat) (r : Rd) : rdN f (n + 1) r = ((f r).1 :: (rdN f n (f r).2).1, (rdN f n (f r).2).2) := by
  induction n with
  | zero => rfl
  | succ n ih =>
    have e : rdN f (n + 1 + 1) r = ((rdN f (n + 1) r).1 ++ [(f (rdN f (n + 1) r).2).1], (f (rdN f (n + 1) r).2).2) := rfl
    rw [e, ih]
    rfl
theorem rdN_fits {α : Type} {f : Rd → α × Rd} {g : α → List UInt8} {ok : α → Prop} (h : Fits f g ok) (n : Nat) :
    Fits (rdN f n) (fun l => l.flatMap g) (fun l => l.length = n ∧ ∀ x ∈ l, ok x) := by
  induction n with
  | zero =>
    refine ⟨fun r hm => hm, fun r => ⟨rfl, fun x hx => by simp [rdN] at hx⟩, fun r hm he => ⟨he, by simp [rdN]⟩, fun l b hl => ?_⟩
    have : l = [] := List.eq_nil_of_length_eq_zero hl.1
    subst this
    rfl
  | succ n ih =>
    refine ⟨fun r hm => h.made _ (ih.made r hm), fun r => ⟨rdN_len f _ r, fun x hx => ?_⟩, fun r hm he => ?_, fun l b hl => ?_⟩
    · rw [rdN] at hx
      simp only [List.mem_append, List.mem_singleton] at hx
      rcases hx with hx | hx
      · exact (ih.good r).2 x hx
      · rw [hx]; exact h.good _
    · have h1 := h.back _ (ih.made r hm) he
      have h2 := ih.back r hm h1.1
      refine ⟨h2.1, ?_⟩
      rw [h2.2, h1.2]
      simp [rdN]
    · match l, hl with
      | [], hl => simp at hl
      | x :: l, hl =>
        rw [rdN_cons]
        have := h.there x (l.flatMap g ++ b) (hl.2 x (by simp))
        rw [List.flatMap_cons, List.append_assoc, this]
        dsimp only
        rw [ih.there l b ⟨by simpa using hl.1, fun y hy => hl.2 y (by simp [hy])⟩]
theorem Fits.seq {α β : Type} {f : Rd → α × Rd} {g : α → List UInt8} {ok : α → Prop} {f' : Rd → β × Rd} {g' : β → List UInt8} {ok' : β → Prop} (h : Fits f g ok) (h' : Fits f' g' ok') :
    Fits (fun r => (((f r).1, (f' (f r).2).1), (f' (f r).2).2)) (fun x : α × β => g x.1 ++ g' x.2) (fun x => ok x.1 ∧ ok' x.2) := by
  refine ⟨fun r hm => h'.made _ (h.made r hm), fun r => ⟨h.good r, h'.good _⟩, fun r hm he => ?_, fun x l hx => ?_⟩
  · have h1 := h'.back _ (h.made r hm) he
    have h2 := h.back r hm h1.1
    exact ⟨h2.1, by rw [h2.2, h1.2, List.append_assoc]⟩
  · rw [List.append_assoc, h.there x.1 _ hx.1]
    rw [h'.there x.2 l hx.2]
theorem Fits.as {α β : Type} {f : Rd → α × Rd} {g : α → List UInt8} {ok : α → Prop} (h : Fits f g ok) (to : α → β) (of : β → α) (g' : β → List UInt8) (ok' : β → Prop)
    (h1 : ∀ x, ok x → g' (to x) = g x) (h2 : ∀ x, ok x → ok' (to x)) (h3 : ∀ y, ok' y → g' y = g (of y) ∧ ok (of y) ∧ to (of y) = y) : Fits (fun r => (to (f r).1, (f r).2)) g' ok' := by
  refine ⟨h.made, fun r => h2 _ (h.good r), fun r hm he => ?_, fun y l hy => ?_⟩
  · have := h.back r hm he
    exact ⟨this.1, by rw [this.2, h1 _ (h.good r)]⟩
  · have h4 := h3 y hy
    rw [h4.1, h.there _ _ h4.2.1, h4.2.2]
theorem int_fits {w : Int} (h1 : 1 ≤ w) (h2 : w ≤ 7) : Fits (fun r => r.int w) (fun x : Int => enc w.toNat (x % 256 ^ w.toNat)) (fun x => -(256 ^ w.toNat / 2) ≤ x ∧ x < 256 ^ w.toNat / 2) := by
  have e : (fun r : Rd => r.int w) = fun r => (sx w (r.num w).1, (r.num w).2) := by
    funext r
    unfold Rd.int
    rw [if_neg (by omega)]
  rw [e]
  have e2 : ((256 ^ w.toNat : Nat) : Int) = 256 ^ w.toNat := by rw [Int.natCast_pow]; rfl
  have hev : (256 ^ w.toNat : Int) = 2 * (256 ^ w.toNat / 2) ∧ (128 : Int) ≤ 256 ^ w.toNat / 2 := by
    obtain h | h | h | h | h | h | h : w = 1 ∨ w = 2 ∨ w = 3 ∨ w = 4 ∨ w = 5 ∨ w = 6 ∨ w = 7 := by omega
    all_goals (subst h; decide)
  refine (num_fits h1 (by omega)).as (sx w) (fun x => (x % 256 ^ w.toNat).toNat) _ _ (fun x hx => ?_) (fun x hx => ?_) (fun y hy => ?_)
  · unfold sx
    rw [← e2] at hev ⊢
    generalize 256 ^ w.toNat = P at hx hev ⊢
    split
    · rw [Int.emod_eq_of_lt (by omega) (by omega)]
    · rw [Int.sub_emod_right, Int.emod_eq_of_lt (by omega) (by omega)]
  · unfold sx
    rw [← e2] at hev ⊢
    generalize 256 ^ w.toNat = P at hx hev ⊢
    split <;> omega
  · unfold sx
    rw [← e2] at hev hy ⊢
    generalize 256 ^ w.toNat = P at hev hy ⊢
    have h3 := Int.emod_nonneg y (show (P : Int) ≠ 0 by omega)
    have h4 := Int.emod_lt_of_pos y (show (0 : Int) < P by omega)
    refine ⟨by rw [Int.toNat_of_nonneg h3], by omega, ?_⟩
    by_cases hn : 0 ≤ y
    · rw [Int.emod_eq_of_lt hn (by omega), if_pos (by omega)]
      omega
    · have : y % P = y + P := by rw [← Int.add_emod_right, Int.emod_eq_of_lt (by omega) (by omega)]
      rw [this, if_neg (by omega)]
      omega
end Go.UM

namespace Go.UM
open Go.AM
set_option maxRecDepth 4000
theorem cap3 (b : List T3) (m : Int) : (slc3 b).take (min (b.length : Int) m).toNat = slc3 (b.take m.toNat) := by rw [slc3_take, take_cap]
theorem cap2 (b : List (Int × Int)) (m : Int) : (slc2 b).take (min (b.length : Int) m).toNat = slc2 (b.take m.toNat) := by rw [slc2_take, take_cap]
structure Ms.Ok (m : Ms) : Prop where
  v : ∀ p ∈ m.v, inI .i64 p.a ∧ inI .i64 p.b ∧ inI .i64 p.c
  uv : ∀ p ∈ m.uv, inI .i64 p.1 ∧ inI .i64 p.2
  t : ∀ p ∈ m.t, inI .i64 p.a ∧ inI .i64 p.b ∧ inI .i64 p.c
structure Ms.May (m : Ms) : Prop where
  v : 1 ≤ m.v.length ∧ m.v.length ≤ 64
  t : 1 ≤ m.t.length ∧ m.t.length ≤ 64
  uv : m.uv.length = m.v.length
  pv : ∀ p ∈ m.v, -4096 ≤ p.a ∧ p.a ≤ 4096 ∧ -4096 ≤ p.b ∧ p.b ≤ 4096 ∧ -4096 ≤ p.c ∧ p.c ≤ 4096
  pu : ∀ x ∈ m.uv, 0 ≤ x.1 ∧ x.1 ≤ 65535 ∧ 0 ≤ x.2 ∧ x.2 ≤ 65535
  pt : ∀ t ∈ m.t, 0 ≤ t.a ∧ t.a < m.v.length ∧ 0 ≤ t.b ∧ t.b < m.v.length ∧ 0 ≤ t.c ∧ t.c < m.v.length ∧ t.a ≠ t.b ∧ t.b ≠ t.c ∧ t.c ≠ t.a
theorem mchk_may {m : Ms} (h : mchk m = 0) : m.May := by
  unfold mchk at h
  split at h
  · cases h
  · split at h
    · cases h
    · split at h
      · cases h
      · split at h
        · cases h
        · rename_i h1 h2 h3 h4
          simp only [not_or, Bool.not_eq_true, List.any_eq_false] at h3 h4
          refine ⟨by omega, by omega, by omega, fun p hp => ?_, fun p hp => ?_, fun p hp => ?_⟩
          · have := h3 p hp; simpa [off3] using this
          · have := h4.1 p hp; simpa [bad2] using this
          · have := h4.2 p hp; simpa [badT] using this
theorem Ms.May.chk {m : Ms} (h : m.May) : mchk m = 0 := by
  unfold mchk
  have h1 := h.v
  have h2 := h.t
  have h3 := h.uv
  rw [if_neg (by omega), if_neg (by omega), if_neg, if_neg]
  · simp only [not_or, Bool.not_eq_true, List.any_eq_false]
    exact ⟨fun p hp => by have := h.pu p hp; simpa [bad2] using this, fun p hp => by have := h.pt p hp; simpa [badT] using this⟩
  · simp only [Bool.not_eq_true, List.any_eq_false]
    exact fun p hp => by have := h.pv p hp; simpa [off3] using this
def Ms.few (m : Ms) : Ms := ⟨m.v.take 70, m.uv.take 70, m.t.take 70⟩
theorem few13_c {R : Env} (h : N191 R) (m : Ms) : R.Pc 191 [.agg m.row] (.agg m.few.row) :=
  h.o191.enter 100 rfl fun X bb hfit hp => by
    refine sh ?_
    refine asub_eq (by exact cap3 _ _) ?_
    refine sh ?_
    refine asub_eq (by exact cap2 _ _) ?_
    refine sh ?_
    refine asub_eq (by exact cap3 _ _) ?_
    refine sh ?_
    exact rT
def encP (p : T3) : List UInt8 := enc 2 (p.a % 65536) ++ enc 2 (p.b % 65536) ++ enc 2 (p.c % 65536)
def enc2 (x : Int × Int) : List UInt8 := enc 2 x.1 ++ enc 2 x.2
def encT (t : T3) : List UInt8 := [u8 t.a, u8 t.b, u8 t.c]
def mbytes (m : Ms) : List UInt8 := [u8 m.v.length, u8 m.t.length] ++ m.v.flatMap encP ++ m.uv.flatMap enc2 ++ m.t.flatMap encT
def menc (m : Ms) : List UInt8 × Int := if mchk m ≠ 0 then ([], mchk m) else (mbytes m, 0)
theorem flat_succ {α : Type} {l : List α} {k : Nat} {x : α} {f : α → List UInt8} (h : l[k]? = some x) : (l.take (k + 1)).flatMap f = (l.take k).flatMap f ++ f x := by
  rw [take_succ_get h]; simp
theorem signs_pt {b : List UInt8} {p : T3} (h : -4096 ≤ p.a ∧ p.a ≤ 4096 ∧ -4096 ≤ p.b ∧ p.b ≤ 4096 ∧ -4096 ≤ p.c ∧ p.c ≤ 4096) : signs b 2 [p.a, p.b, p.c] = (b ++ encP p, 0) := by
  rw [signs_ok (by decide) (by decide), puts_ok (by decide) (by decide)]
  · simp [encP]
  · simp; omega
  · simp; omega
theorem puts_uv {b : List UInt8} {x : Int × Int} (h : 0 ≤ x.1 ∧ x.1 ≤ 65535 ∧ 0 ≤ x.2 ∧ x.2 ≤ 65535) : puts b 2 [x.1, x.2] = (b ++ enc2 x, 0) := by
  rw [puts_ok (by decide) (by decide)]
  · simp [enc2]
  · simp; omega
theorem len_P {l : List T3} : (l.flatMap encP).length = 6 * l.length := by
  induction l with
  | nil => rfl
  | cons x r ih => simp [encP] at ih ⊢; omega
theorem len_2 {l : List (Int × Int)} : (l.flatMap enc2).length = 4 * l.length := by
  induction l with
  | nil => rfl
  | cons x r ih => simp [enc2] at ih ⊢; omega
theorem len_T {l : List T3} : (l.flatMap encT).length = 3 * l.length := by
  induction l with
  | nil => rfl
  | cons x r ih => simp [encT] at ih ⊢; omega
theorem mencode_c {R : Env} (h : N196 R) (m : Ms) : R.Pc 196 [.agg m.row] (.tup [.isl 1 (slc8 (menc m).1), .int .i64 (menc m).2]) :=
  h.o196.enter 100 rfl fun X bb hfit hp => by
    refine sh ?_
    refine ICall.pure h.n193.o193.hb (mcheck_c h.n193 m) rfl ?_
    generalize hq : menc m = q
    refine sh ?_
    refine cS (fun h1 => ?_) (fun h1 => ?_)
    · rw [menc, if_pos h1] at hq
      subst hq
      refine sh ?_
      exact rT
    · rw [menc, if_neg (by simpa using h1)] at hq
      subst hq
      have may := mchk_may h1
      have mv := may.v
      have mt := may.t
      have mu := may.uv
      have w8 : ((u8 m.v.length).toNat : Int) = m.v.length := u8_in (by omega)
      have t8 : ((u8 m.t.length).toNat : Int) = m.t.length := u8_in (by omega)
      refine sh ?_
      refine ILoop.inv 100 (fun i : Nat => i ≤ m.v.length) (fun i => ⟨[(1, .loc 0 1 0 0), (5, .osl 1 ([u8 m.v.length, u8 m.t.length] ++ (m.v.take i).flatMap encP).length), (27, .isl 3 (slc3 m.v)), (28, .int .i64 m.v.length), (29, .int .i64 i)], [(1, .arr (R.ty 4) 1 (slc8 ([u8 m.v.length, u8 m.t.length] ++ (m.v.take i).flatMap encP))), (0, .var (R.ty 25) m.row)], 2⟩) (fun i => m.v.length - i) (0) ?_ ⟨⟨_, hp, rfl⟩, ?_, ?_⟩ ?_
      · exact Nat.zero_le _
      · all_goals repeat' (first | exact True.intro | refine And.intro ?_ ?_ | (intro _u; clear _u) | (with_reducible first | refine eM ?_ ?_ | refine eF ?_ ?_ ?_ | refine eN ?_ | refine eL ?_ ?_ ?_ | refine eA ?_ ?_ | refine IWk.mk ⟨_, hp, rfl⟩ ?_ ?_) | refine IWk.mk ⟨_, hp, rfl⟩ ?_ ?_)
        all_goals first | with_reducible rfl | omega | exact Or.inl (by decide) | (simp; done) | rfl | skip
      · all_goals repeat' (first | exact True.intro | refine And.intro ?_ ?_ | (intro _u; clear _u) | (with_reducible first | refine eM ?_ ?_ | refine eF ?_ ?_ ?_ | refine eN ?_ | refine eL ?_ ?_ ?_ | refine eA ?_ ?_ | refine IWk.mk ⟨_, hp, rfl⟩ ?_ ?_) | refine IWk.mk ⟨_, hp, rfl⟩ ?_ ?_)
        all_goals first | with_reducible rfl | omega | exact Or.inl (by decide) | (simp; done) | rfl | skip
        simp [slc8, w8, t8]
      · intro i hi
        dsimp only
        refine sh ?_
        refine cS (fun h2 => ?_) (fun h2 => ?_)
        · obtain ⟨y, hy⟩ : ∃ u_, m.v[i]? = some u_ := ⟨_, List.getElem?_eq_getElem (by first | omega | (simp <;> omega))⟩
          refine sh ?_
          refine eget_map hy ?_
          have hyy := may.pv y (List.mem_of_getElem? hy)
          have c1 := signed_c h.n71 ([u8 m.v.length, u8 m.t.length] ++ (m.v.take i).flatMap encP) 2 [y.a, y.b, y.c] (by simp only [List.length_append, len_P, List.length_take, List.length_cons, List.length_nil]; omega) (by simp [inI]; omega)
          rw [signs_pt hyy] at c1
          refine sh ?_
          refine cM true [] (c1) ?_
          repeat ((intro _u; clear _u); first | refine eK ?_ | refine eP ?_)
          refine sh ?_
          refine nRm [0, 4] (i + 1) ?_ ?_ ?_
          · omega
          · omega
          · all_goals repeat' (first | exact True.intro | refine And.intro ?_ ?_ | (intro _u; clear _u) | (with_reducible first | refine eM ?_ ?_ | refine eF ?_ ?_ ?_ | refine eN ?_ | refine eL ?_ ?_ ?_ | refine eA ?_ ?_ | refine IWk.mk ⟨_, hp, rfl⟩ ?_ ?_) | refine IWk.mk ⟨_, hp, rfl⟩ ?_ ?_)
            all_goals first | with_reducible rfl | omega | exact Or.inl (by decide) | (simp; done) | rfl | skip
            rw [flat_succ hy]; simp
            rw [flat_succ hy]; simp
        · rw [show m.v.take i = m.v from List.take_of_length_le (by omega)]
          have hB : ([u8 m.v.length, u8 m.t.length] ++ m.v.flatMap encP).length ≤ 400 := by
            simp only [List.length_append, len_P, List.length_cons, List.length_nil]; omega
          have e : mbytes m = [u8 m.v.length, u8 m.t.length] ++ m.v.flatMap encP ++ m.uv.flatMap enc2 ++ m.t.flatMap encT := rfl
          rw [e]
          generalize [u8 m.v.length, u8 m.t.length] ++ m.v.flatMap encP = B at hB ⊢
          refine sh ?_
          refine lPa 100 (fun i : Nat => i ≤ m.uv.length) (fun i => ⟨[(1, .loc 0 1 0 0), (5, .osl 1 (B ++ (m.uv.take i).flatMap enc2).length), (47, .isl 2 (slc2 m.uv)), (48, .int .i64 m.uv.length), (49, .int .i64 i)], [(1, .arr (R.ty 4) 1 (slc8 (B ++ (m.uv.take i).flatMap enc2))), (0, .var (R.ty 25) m.row)], 2⟩) (fun i => m.uv.length - i) (0) ?_ ?_
          · exact Nat.zero_le _
          · intro i hi
            dsimp only
            refine sh ?_
            refine cS (fun h3 => ?_) (fun h3 => ?_)
            · obtain ⟨x, hx⟩ : ∃ u_, m.uv[i]? = some u_ := ⟨_, List.getElem?_eq_getElem (by first | omega | (simp <;> omega))⟩
              refine sh ?_
              refine eget_map hx ?_
              have hxx := may.pu x (List.mem_of_getElem? hx)
              have c1 := put_c h.n54 (B ++ (m.uv.take i).flatMap enc2) 2 [x.1, x.2] (by simp only [List.length_append, len_2, List.length_take, List.length_cons, List.length_nil]; omega) (by simp; omega)
              rw [puts_uv hxx] at c1
              refine sh ?_
              refine cM true [] (c1) ?_
              repeat ((intro _u; clear _u); first | refine eK ?_ | refine eP ?_)
              refine sh ?_
              refine nRm [0, 4] (i + 1) ?_ ?_ ?_
              · omega
              · omega
              · all_goals repeat' (first | exact True.intro | refine And.intro ?_ ?_ | (intro _u; clear _u) | (with_reducible first | refine eM ?_ ?_ | refine eF ?_ ?_ ?_ | refine eN ?_ | refine eL ?_ ?_ ?_ | refine eA ?_ ?_ | refine IWk.mk ⟨_, hp, rfl⟩ ?_ ?_) | refine IWk.mk ⟨_, hp, rfl⟩ ?_ ?_)
                all_goals first | with_reducible rfl | omega | exact Or.inl (by decide) | (simp; done) | rfl | skip
                rw [flat_succ hx]; simp
                rw [flat_succ hx]; simp
            · rw [show m.uv.take i = m.uv from List.take_of_length_le (by omega)]
              have hB2 : (B ++ m.uv.flatMap enc2).length ≤ 800 := by
                simp only [List.length_append, len_2]; omega
              generalize B ++ m.uv.flatMap enc2 = C at hB2 ⊢
              refine sh ?_
              refine lPa 100 (fun i : Nat => i ≤ m.t.length) (fun i => ⟨[(5, .osl 1 (C ++ (m.t.take i).flatMap encT).length), (67, .isl 3 (slc3 m.t)), (68, .int .i64 m.t.length), (69, .int .i64 i)], [(1, .arr (R.ty 4) 1 (slc8 (C ++ (m.t.take i).flatMap encT)))], 2⟩) (fun i => m.t.length - i) (0) ?_ ?_
              · exact Nat.zero_le _
              · intro i hi
                dsimp only
                refine sh ?_
                refine cS (fun h4 => ?_) (fun h4 => ?_)
                · obtain ⟨y, hy⟩ : ∃ u_, m.t[i]? = some u_ := ⟨_, List.getElem?_eq_getElem (by first | omega | (simp <;> omega))⟩
                  refine sh ?_
                  refine eget_map hy ?_
                  have hyy := may.pt y (List.mem_of_getElem? hy)
                  refine sh ?_
                  refine nD ?_ (by simp only [slc8_length, List.length_append, len_T, List.length_take]; simp; omega)
                  refine sh ?_
                  refine nX (i + 1) ?_ ?_ ⟨_, hp, rfl⟩ ?_ ?_
                  · omega
                  · omega
                  · all_goals repeat' (first | exact True.intro | refine And.intro ?_ ?_ | (intro _u; clear _u) | (with_reducible first | refine eM ?_ ?_ | refine eF ?_ ?_ ?_ | refine eN ?_ | refine eL ?_ ?_ ?_ | refine eA ?_ ?_ | refine IWk.mk ⟨_, hp, rfl⟩ ?_ ?_) | refine IWk.mk ⟨_, hp, rfl⟩ ?_ ?_)
                    all_goals first | with_reducible rfl | omega | exact Or.inl (by decide) | (simp; done) | rfl | skip
                    rw [flat_succ hy]; simp [encT]
                  · all_goals repeat' (first | exact True.intro | refine And.intro ?_ ?_ | (intro _u; clear _u) | (with_reducible first | refine eM ?_ ?_ | refine eF ?_ ?_ ?_ | refine eN ?_ | refine eL ?_ ?_ ?_ | refine eA ?_ ?_ | refine IWk.mk ⟨_, hp, rfl⟩ ?_ ?_) | refine IWk.mk ⟨_, hp, rfl⟩ ?_ ?_)
                    all_goals first | with_reducible rfl | omega | exact Or.inl (by decide) | (simp; done) | rfl | skip
                    rw [flat_succ hy]; simp [encT, slc8]
                    refine ⟨(u8_in ?_).symm, (u8_in ?_).symm, (u8_in ?_).symm⟩ <;> omega
                · rw [show m.t.take i = m.t from List.take_of_length_le (by omega)]
                  refine sh ?_
                  exact rT
end Go.UM

namespace Go.UM
open Go.AM
set_option maxRecDepth 4000
theorem roff_c {R : Env} (h : N213 R) (p : T3) : R.Pc 213 [.agg (t3 p), .int .i64 4096] (.bool (off3 p)) :=
  h.o213.enter 60 rfl fun X bb hfit hp => by
    unfold off3
    refine sh ?_
    refine cS (fun h1 => ?_) (fun h1 => ?_)
    · refine sh ?_
      refine rT ?_
      all_goals repeat' (first | exact True.intro | refine And.intro ?_ ?_ | (intro _u; clear _u) | (with_reducible first | refine eM ?_ ?_ | refine eF ?_ ?_ ?_ | refine eN ?_ | refine eL ?_ ?_ ?_ | refine eA ?_ ?_ | refine IWk.mk ⟨_, hp, rfl⟩ ?_ ?_) | refine IWk.mk ⟨_, hp, rfl⟩ ?_ ?_)
      all_goals first | with_reducible rfl | omega | exact Or.inl (by decide) | (simp; done) | rfl | skip
      simp; omega
    · refine sh ?_
      refine cS (fun h2 => ?_) (fun h2 => ?_)
      · refine sh ?_
        refine rT ?_
        all_goals repeat' (first | exact True.intro | refine And.intro ?_ ?_ | (intro _u; clear _u) | (with_reducible first | refine eM ?_ ?_ | refine eF ?_ ?_ ?_ | refine eN ?_ | refine eL ?_ ?_ ?_ | refine eA ?_ ?_ | refine IWk.mk ⟨_, hp, rfl⟩ ?_ ?_) | refine IWk.mk ⟨_, hp, rfl⟩ ?_ ?_)
        all_goals first | with_reducible rfl | omega | exact Or.inl (by decide) | (simp; done) | rfl | skip
        simp; omega
      · refine sh ?_
        refine cS (fun h3 => ?_) (fun h3 => ?_)
        · refine sh ?_
          refine rT ?_
          all_goals repeat' (first | exact True.intro | refine And.intro ?_ ?_ | (intro _u; clear _u) | (with_reducible first | refine eM ?_ ?_ | refine eF ?_ ?_ ?_ | refine eN ?_ | refine eL ?_ ?_ ?_ | refine eA ?_ ?_ | refine IWk.mk ⟨_, hp, rfl⟩ ?_ ?_) | refine IWk.mk ⟨_, hp, rfl⟩ ?_ ?_)
          all_goals first | with_reducible rfl | omega | exact Or.inl (by decide) | (simp; done) | rfl | skip
          simp; omega
        · refine sh ?_
          refine cS (fun h4 => ?_) (fun h4 => ?_)
          · refine sh ?_
            refine rT ?_
            all_goals repeat' (first | exact True.intro | refine And.intro ?_ ?_ | (intro _u; clear _u) | (with_reducible first | refine eM ?_ ?_ | refine eF ?_ ?_ ?_ | refine eN ?_ | refine eL ?_ ?_ ?_ | refine eA ?_ ?_ | refine IWk.mk ⟨_, hp, rfl⟩ ?_ ?_) | refine IWk.mk ⟨_, hp, rfl⟩ ?_ ?_)
            all_goals first | with_reducible rfl | omega | exact Or.inl (by decide) | (simp; done) | rfl | skip
            simp; omega
          · refine sh ?_
            refine cS (fun h5 => ?_) (fun h5 => ?_)
            · refine sh ?_
              refine rT ?_
              all_goals repeat' (first | exact True.intro | refine And.intro ?_ ?_ | (intro _u; clear _u) | (with_reducible first | refine eM ?_ ?_ | refine eF ?_ ?_ ?_ | refine eN ?_ | refine eL ?_ ?_ ?_ | refine eA ?_ ?_ | refine IWk.mk ⟨_, hp, rfl⟩ ?_ ?_) | refine IWk.mk ⟨_, hp, rfl⟩ ?_ ?_)
              all_goals first | with_reducible rfl | omega | exact Or.inl (by decide) | (simp; done) | rfl | skip
              simp; omega
            · refine sh ?_
              refine rT ?_
              all_goals repeat' (first | exact True.intro | refine And.intro ?_ ?_ | (intro _u; clear _u) | (with_reducible first | refine eM ?_ ?_ | refine eF ?_ ?_ ?_ | refine eN ?_ | refine eL ?_ ?_ ?_ | refine eA ?_ ?_ | refine IWk.mk ⟨_, hp, rfl⟩ ?_ ?_) | refine IWk.mk ⟨_, hp, rfl⟩ ?_ ?_)
              all_goals first | with_reducible rfl | omega | exact Or.inl (by decide) | (simp; done) | rfl | skip
              rw [Bool.eq_iff_iff]; simp only [decide_eq_true_eq, Bool.not_eq_true', decide_eq_false_iff_not]; omega
theorem rcheck13_c {R : Env} (h : N198 R) (m : Ms) : R.Pc 198 [.agg m.row] (.int .i64 (mchk m)) :=
  h.o198.enter 100 rfl fun X bb hfit hp => by
    generalize hq : mchk m = q
    refine sh ?_
    refine cS (fun h1 => ?_) (fun h1 => ?_)
    · rw [mchk, if_pos (.inl (by omega))] at hq
      subst hq
      refine sh ?_
      exact rT
    · refine sh ?_
      refine cS (fun h2 => ?_) (fun h2 => ?_)
      · rw [mchk, if_pos (.inr (by omega))] at hq
        subst hq
        refine sh ?_
        exact rT
      · have g1 : ¬ (64 < m.v.length ∨ 64 < m.t.length) := by omega
        refine sh ?_
        refine cS (fun h3 => ?_) (fun h3 => ?_)
        · rw [mchk, if_neg g1, if_pos (.inl (by omega))] at hq
          subst hq
          refine sh ?_
          exact rT
        · refine sh ?_
          refine cS (fun h4 => ?_) (fun h4 => ?_)
          · rw [mchk, if_neg g1, if_pos (.inr (.inl (by omega)))] at hq
            subst hq
            refine sh ?_
            exact rT
          · refine sh ?_
            refine cS (fun h5 => ?_) (fun h5 => ?_)
            · rw [mchk, if_neg g1, if_pos (.inr (.inr (by omega)))] at hq
              subst hq
              refine sh ?_
              exact rT
            · rw [mchk, if_neg g1, if_neg (by omega)] at hq
              refine sh ?_
              refine lPa 100 (fun k : Nat => k ≤ m.v.length ∧ (m.v.take k).any off3 = false) (fun k => ⟨[(1, .loc 0 1 0 0), (3, .int .i64 k)], [(0, .var (R.ty 25) m.row)], 1⟩) (fun k => m.v.length - k) (0) ?_ ?_
              · exact ⟨Nat.zero_le _, by simp⟩
              · intro k hk
                dsimp only
                refine sh ?_
                refine cS (fun h6 => ?_) (fun h6 => ?_)
                · obtain ⟨x, hx⟩ : ∃ u_, m.v[k]? = some u_ := ⟨_, List.getElem?_eq_getElem (by first | omega | (simp <;> omega))⟩
                  refine sh ?_
                  refine eget_map hx ?_
                  refine sh ?_
                  refine ICall.pure h.n213.o213.hb (roff_c h.n213 x) rfl ?_
                  refine sh ?_
                  refine cS (fun h7 => ?_) (fun h7 => ?_)
                  · rw [if_pos (any_at hx h7)] at hq
                    subst hq
                    refine sh ?_
                    exact rT
                  · refine sh ?_
                    refine nXa (k + 1) ?_ ?_
                    · refine ⟨by omega, ?_⟩
                      rw [any_take_succ' hx, hk.2, h7]; rfl
                    · omega
                · have hv := hk.2
                  rw [List.take_of_length_le (by omega)] at hv
                  rw [if_neg (by rw [hv]; decide)] at hq
                  refine sh ?_
                  refine lPa 100 (fun k : Nat => k ≤ m.uv.length ∧ (m.uv.take k).any bad2 = false) (fun k => ⟨[(1, .loc 0 1 0 0), (4, .int .i64 k)], [(0, .var (R.ty 25) m.row)], 1⟩) (fun k => m.uv.length - k) (0) ?_ ?_
                  · exact ⟨Nat.zero_le _, by simp⟩
                  · intro k hk
                    dsimp only
                    refine sh ?_
                    refine cS (fun h7 => ?_) (fun h7 => ?_)
                    · obtain ⟨x, hx⟩ : ∃ u, m.uv[k]? = some u := ⟨_, List.getElem?_eq_getElem (by omega)⟩
                      refine sh ?_
                      refine ILoop.one 100 ?_
                      refine sh ?_
                      refine acnd_t (by decide) ?_
                      refine sh ?_
                      refine eget_map hx ?_
                      refine sh ?_
                      refine cS (fun a1 => ?_) (fun a1 => ?_)
                      · rw [if_pos (.inl (any_at hx (by simp [bad2]; omega)))] at hq
                        subst hq
                        refine sh ?_
                        exact rT
                      · refine sh ?_
                        refine eget_map hx ?_
                        refine sh ?_
                        refine cS (fun a2 => ?_) (fun a2 => ?_)
                        · rw [if_pos (.inl (any_at hx (by simp [bad2]; omega)))] at hq
                          subst hq
                          refine sh ?_
                          exact rT
                        · refine sh ?_
                          refine ILoop.one 100 ?_
                          refine sh ?_
                          refine acnd_t (by decide) ?_
                          refine sh ?_
                          refine eget_map hx ?_
                          refine sh ?_
                          refine cS (fun a3 => ?_) (fun a3 => ?_)
                          · rw [if_pos (.inl (any_at hx (by simp [bad2]; omega)))] at hq
                            subst hq
                            refine sh ?_
                            exact rT
                          · refine sh ?_
                            refine eget_map hx ?_
                            refine sh ?_
                            refine cS (fun a4 => ?_) (fun a4 => ?_)
                            · rw [if_pos (.inl (any_at hx (by simp [bad2]; omega)))] at hq
                              subst hq
                              refine sh ?_
                              exact rT
                            · refine sh ?_
                              refine ILoop.one 100 ?_
                              refine sh ?_
                              refine acnd_f (by decide) ?_
                              refine sh ?_
                              refine nXa (k + 1) ?_ ?_
                              · refine ⟨by omega, ?_⟩
                                rw [any_take_succ' hx, hk.2]
                                simp [bad2]; omega
                              · omega
                    · have hu := hk.2
                      rw [List.take_of_length_le (by omega)] at hu
                      refine sh ?_
                      refine lPa 100 (fun k : Nat => k ≤ m.t.length ∧ (m.t.take k).any (badT m.v.length) = false) (fun k => ⟨[(1, .loc 0 1 0 0), (6, .int .i64 k)], [(0, .var (R.ty 25) m.row)], 1⟩) (fun k => m.t.length - k) (0) ?_ ?_
                      · exact ⟨Nat.zero_le _, by simp⟩
                      · intro k hk
                        dsimp only
                        refine sh ?_
                        refine cS (fun h8 => ?_) (fun h8 => ?_)
                        · obtain ⟨t, ht⟩ : ∃ u, m.t[k]? = some u := ⟨_, List.getElem?_eq_getElem (by omega)⟩
                          refine sh ?_
                          refine ILoop.one 100 ?_
                          refine sh ?_
                          refine acnd_t (by decide) ?_
                          refine sh ?_
                          refine eget_map ht ?_
                          refine sh ?_
                          refine cS (fun a1 => ?_) (fun a1 => ?_)
                          · rw [if_pos (.inr (any_at ht (by simp [badT]; omega)))] at hq
                            subst hq
                            refine sh ?_
                            exact rT
                          · refine sh ?_
                            refine eget_map ht ?_
                            refine sh ?_
                            refine cS (fun a2 => ?_) (fun a2 => ?_)
                            · rw [if_pos (.inr (any_at ht (by simp [badT]; omega)))] at hq
                              subst hq
                              refine sh ?_
                              exact rT
                            · refine sh ?_
                              refine eget_map ht ?_
                              refine sh ?_
                              refine eget_map ht ?_
                              refine sh ?_
                              refine cS (fun a3 => ?_) (fun a3 => ?_)
                              · rw [if_pos (.inr (any_at ht (by simp [badT]; omega)))] at hq
                                subst hq
                                refine sh ?_
                                exact rT
                              · refine sh ?_
                                refine ILoop.one 100 ?_
                                refine sh ?_
                                refine acnd_t (by decide) ?_
                                refine sh ?_
                                refine eget_map ht ?_
                                refine sh ?_
                                refine cS (fun a4 => ?_) (fun a4 => ?_)
                                · rw [if_pos (.inr (any_at ht (by simp [badT]; omega)))] at hq
                                  subst hq
                                  refine sh ?_
                                  exact rT
                                · refine sh ?_
                                  refine eget_map ht ?_
                                  refine sh ?_
                                  refine cS (fun a5 => ?_) (fun a5 => ?_)
                                  · rw [if_pos (.inr (any_at ht (by simp [badT]; omega)))] at hq
                                    subst hq
                                    refine sh ?_
                                    exact rT
                                  · refine sh ?_
                                    refine eget_map ht ?_
                                    refine sh ?_
                                    refine eget_map ht ?_
                                    refine sh ?_
                                    refine cS (fun a6 => ?_) (fun a6 => ?_)
                                    · rw [if_pos (.inr (any_at ht (by simp [badT]; omega)))] at hq
                                      subst hq
                                      refine sh ?_
                                      exact rT
                                    · refine sh ?_
                                      refine ILoop.one 100 ?_
                                      refine sh ?_
                                      refine acnd_t (by decide) ?_
                                      refine sh ?_
                                      refine eget_map ht ?_
                                      refine sh ?_
                                      refine cS (fun a7 => ?_) (fun a7 => ?_)
                                      · rw [if_pos (.inr (any_at ht (by simp [badT]; omega)))] at hq
                                        subst hq
                                        refine sh ?_
                                        exact rT
                                      · refine sh ?_
                                        refine eget_map ht ?_
                                        refine sh ?_
                                        refine cS (fun a8 => ?_) (fun a8 => ?_)
                                        · rw [if_pos (.inr (any_at ht (by simp [badT]; omega)))] at hq
                                          subst hq
                                          refine sh ?_
                                          exact rT
                                        · refine sh ?_
                                          refine eget_map ht ?_
                                          refine sh ?_
                                          refine eget_map ht ?_
                                          refine sh ?_
                                          refine cS (fun a9 => ?_) (fun a9 => ?_)
                                          · rw [if_pos (.inr (any_at ht (by simp [badT]; omega)))] at hq
                                            subst hq
                                            refine sh ?_
                                            exact rT
                                          · refine sh ?_
                                            refine ILoop.one 100 ?_
                                            refine sh ?_
                                            refine acnd_f (by decide) ?_
                                            refine sh ?_
                                            refine nXa (k + 1) ?_ ?_
                                            · refine ⟨by omega, ?_⟩
                                              rw [any_take_succ' ht, hk.2]
                                              simp [badT]; omega
                                            · omega
                        · have hw := hk.2
                          rw [List.take_of_length_le (by omega)] at hw
                          rw [if_neg (by rw [hu, hw]; decide)] at hq
                          subst hq
                          refine sh ?_
                          exact rT
theorem rpoint_c {R : Env} (h : N212 R) (b : List UInt8) (p : T3) (hl : b.length ≤ 1000000) (ok : -4096 ≤ p.a ∧ p.a ≤ 4096 ∧ -4096 ≤ p.b ∧ p.b ≤ 4096 ∧ -4096 ≤ p.c ∧ p.c ≤ 4096) :
    R.Mc 212 [.isl 1 (slc8 b), .agg (t3 p)] [] (.osl 0 (b ++ encP p).length) [(0, .arr (R.ty 4) 1 (slc8 (b ++ encP p)))] 1 :=
  h.o212.enterM 60 0 rfl rfl rfl fun X bb hfit hp => by
    have c1 := rsigned_c h.n72 b 2 [p.a, p.b, p.c] (by simp; omega) (by simp [inI]; omega)
    rw [signs_pt ok] at c1
    refine sh ?_
    refine cM true [] (c1) ?_
    repeat ((intro _u; clear _u); first | refine eK ?_ | refine eP ?_)
    refine sh ?_
    exact rM [2]
theorem rmencode_c {R : Env} (h : N197 R) (m : Ms) : R.Pc 197 [.agg m.row] (.tup [.isl 1 (slc8 (menc m).1), .int .i64 (menc m).2]) :=
  h.o197.enter 100 rfl fun X bb hfit hp => by
    refine sh ?_
    refine ICall.pure h.n198.o198.hb (rcheck13_c h.n198 m) rfl ?_
    generalize hq : menc m = q
    refine sh ?_
    refine cS (fun h1 => ?_) (fun h1 => ?_)
    · rw [menc, if_pos h1] at hq
      subst hq
      refine sh ?_
      exact rT
    · rw [menc, if_neg (by simpa using h1)] at hq
      subst hq
      have may := mchk_may h1
      have mv := may.v
      have mt := may.t
      have mu := may.uv
      have w8 : ((u8 m.v.length).toNat : Int) = m.v.length := u8_in (by omega)
      have t8 : ((u8 m.t.length).toNat : Int) = m.t.length := u8_in (by omega)
      refine sh ?_
      refine ILoop.inv 100 (fun i : Nat => i ≤ m.v.length) (fun i => ⟨[(1, .loc 0 1 0 0), (5, .osl 1 ([u8 m.v.length, u8 m.t.length] ++ (m.v.take i).flatMap encP).length), (6, .int .i64 i)], [(1, .arr (R.ty 4) 1 (slc8 ([u8 m.v.length, u8 m.t.length] ++ (m.v.take i).flatMap encP))), (0, .var (R.ty 25) m.row)], 2⟩) (fun i => m.v.length - i) (0) ?_ ⟨⟨_, hp, rfl⟩, ?_, ?_⟩ ?_
      · exact Nat.zero_le _
      · all_goals repeat' (first | exact True.intro | refine And.intro ?_ ?_ | (intro _u; clear _u) | (with_reducible first | refine eM ?_ ?_ | refine eF ?_ ?_ ?_ | refine eN ?_ | refine eL ?_ ?_ ?_ | refine eA ?_ ?_ | refine IWk.mk ⟨_, hp, rfl⟩ ?_ ?_) | refine IWk.mk ⟨_, hp, rfl⟩ ?_ ?_)
        all_goals first | with_reducible rfl | omega | exact Or.inl (by decide) | (simp; done) | rfl | skip
      · all_goals repeat' (first | exact True.intro | refine And.intro ?_ ?_ | (intro _u; clear _u) | (with_reducible first | refine eM ?_ ?_ | refine eF ?_ ?_ ?_ | refine eN ?_ | refine eL ?_ ?_ ?_ | refine eA ?_ ?_ | refine IWk.mk ⟨_, hp, rfl⟩ ?_ ?_) | refine IWk.mk ⟨_, hp, rfl⟩ ?_ ?_)
        all_goals first | with_reducible rfl | omega | exact Or.inl (by decide) | (simp; done) | rfl | skip
        simp [slc8, w8, t8]
      · intro i hi
        dsimp only
        refine sh ?_
        refine cS (fun h2 => ?_) (fun h2 => ?_)
        · obtain ⟨y, hy⟩ : ∃ u_, m.v[i]? = some u_ := ⟨_, List.getElem?_eq_getElem (by first | omega | (simp <;> omega))⟩
          refine sh ?_
          refine eget_map hy ?_
          have hyy := may.pv y (List.mem_of_getElem? hy)
          refine sh ?_
          refine cM true [] (rpoint_c h.n212 ([u8 m.v.length, u8 m.t.length] ++ (m.v.take i).flatMap encP) y (by simp only [List.length_append, len_P, List.length_take, List.length_cons, List.length_nil]; omega) hyy) ?_
          repeat ((intro _u; clear _u); first | refine eK ?_ | refine eP ?_)
          refine sh ?_
          refine nRm [0, 2] (i + 1) ?_ ?_ ?_
          · omega
          · omega
          · all_goals repeat' (first | exact True.intro | refine And.intro ?_ ?_ | (intro _u; clear _u) | (with_reducible first | refine eM ?_ ?_ | refine eF ?_ ?_ ?_ | refine eN ?_ | refine eL ?_ ?_ ?_ | refine eA ?_ ?_ | refine IWk.mk ⟨_, hp, rfl⟩ ?_ ?_) | refine IWk.mk ⟨_, hp, rfl⟩ ?_ ?_)
            all_goals first | with_reducible rfl | omega | exact Or.inl (by decide) | (simp; done) | rfl | skip
            rw [flat_succ hy]; simp
            rw [flat_succ hy]; simp
        · rw [show m.v.take i = m.v from List.take_of_length_le (by omega)]
          have hB : ([u8 m.v.length, u8 m.t.length] ++ m.v.flatMap encP).length ≤ 400 := by
            simp only [List.length_append, len_P, List.length_cons, List.length_nil]; omega
          have e : mbytes m = [u8 m.v.length, u8 m.t.length] ++ m.v.flatMap encP ++ m.uv.flatMap enc2 ++ m.t.flatMap encT := rfl
          rw [e]
          generalize [u8 m.v.length, u8 m.t.length] ++ m.v.flatMap encP = B at hB ⊢
          refine sh ?_
          refine lPa 100 (fun i : Nat => i ≤ m.uv.length) (fun i => ⟨[(1, .loc 0 1 0 0), (5, .osl 1 (B ++ (m.uv.take i).flatMap enc2).length), (7, .int .i64 i)], [(1, .arr (R.ty 4) 1 (slc8 (B ++ (m.uv.take i).flatMap enc2))), (0, .var (R.ty 25) m.row)], 2⟩) (fun i => m.uv.length - i) (0) ?_ ?_
          · exact Nat.zero_le _
          · intro i hi
            dsimp only
            refine sh ?_
            refine cS (fun h3 => ?_) (fun h3 => ?_)
            · obtain ⟨x, hx⟩ : ∃ u, m.uv[i]? = some u := ⟨_, List.getElem?_eq_getElem (by omega)⟩
              have hxx := may.pu x (List.mem_of_getElem? hx)
              have hC : (B ++ (m.uv.take i).flatMap enc2).length ≤ 800 := by
                simp only [List.length_append, len_2, List.length_take]; omega
              have hst : B ++ (m.uv.take (i + 1)).flatMap enc2 = (B ++ (m.uv.take i).flatMap enc2) ++ enc2 x := by rw [flat_succ hx]; simp
              generalize B ++ (m.uv.take i).flatMap enc2 = C at hC hst ⊢
              refine sh ?_
              refine ILoop.one 100 ?_
              refine sh ?_
              refine acnd_t (by decide) ?_
              refine sh ?_
              refine eget_map hx ?_
              refine sh ?_
              rw [Int.tmod_eq_emod_of_nonneg (by omega)]
              refine wI ?_
              refine sh ?_
              refine eget_map hx ?_
              refine sh ?_
              rw [Int.tdiv_eq_ediv_of_nonneg (by omega)]
              refine wI ?_
              refine sh ?_
              refine ILoop.one 100 ?_
              refine sh ?_
              refine acnd_t (by decide) ?_
              refine sh ?_
              refine eget_map hx ?_
              refine sh ?_
              rw [Int.tmod_eq_emod_of_nonneg (by omega)]
              refine wI ?_
              refine sh ?_
              refine eget_map hx ?_
              refine sh ?_
              rw [Int.tdiv_eq_ediv_of_nonneg (by omega)]
              refine wI ?_
              refine sh ?_
              refine ILoop.one 100 ?_
              refine sh ?_
              refine acnd_f (by decide) ?_
              have f1 : ∀ v : Int, 0 ≤ v ∧ v ≤ 65535 → enc 2 v = [u8 (v % 256), u8 (v / 256)] := fun v hv => by
                unfold enc
                simp [List.range_succ, u8_mod]
              refine sh ?_
              refine nX (i + 1) ?_ ?_ ⟨_, hp, rfl⟩ ?_ ?_
              · omega
              · omega
              · all_goals repeat' (first | exact True.intro | refine And.intro ?_ ?_ | (intro _u; clear _u) | (with_reducible first | refine eM ?_ ?_ | refine eF ?_ ?_ ?_ | refine eN ?_ | refine eL ?_ ?_ ?_ | refine eA ?_ ?_ | refine IWk.mk ⟨_, hp, rfl⟩ ?_ ?_) | refine IWk.mk ⟨_, hp, rfl⟩ ?_ ?_)
                all_goals first | with_reducible rfl | omega | exact Or.inl (by decide) | (simp; done) | rfl | skip
                rw [hst]; simp [enc2]
              · all_goals repeat' (first | exact True.intro | refine And.intro ?_ ?_ | (intro _u; clear _u) | (with_reducible first | refine eM ?_ ?_ | refine eF ?_ ?_ ?_ | refine eN ?_ | refine eL ?_ ?_ ?_ | refine eA ?_ ?_ | refine IWk.mk ⟨_, hp, rfl⟩ ?_ ?_) | refine IWk.mk ⟨_, hp, rfl⟩ ?_ ?_)
                all_goals first | with_reducible rfl | omega | exact Or.inl (by decide) | (simp; done) | rfl | skip
                rw [hst]
                have g1 : ((u8 (x.1 % 256)).toNat : Int) = x.1 % 256 := u8_in (by omega)
                have g2 : ((u8 (x.1 / 256)).toNat : Int) = x.1 / 256 := u8_in (by omega)
                have g3 : ((u8 (x.2 % 256)).toNat : Int) = x.2 % 256 := u8_in (by omega)
                have g4 : ((u8 (x.2 / 256)).toNat : Int) = x.2 / 256 := u8_in (by omega)
                simp [enc2, f1 x.1 (by omega), f1 x.2 (by omega), slc8, g1, g2, g3, g4]
            · rw [show m.uv.take i = m.uv from List.take_of_length_le (by omega)]
              have hB2 : (B ++ m.uv.flatMap enc2).length ≤ 800 := by
                simp only [List.length_append, len_2]; omega
              generalize B ++ m.uv.flatMap enc2 = B2 at hB2 ⊢
              refine sh ?_
              refine lPa 100 (fun i : Nat => i ≤ m.t.length) (fun i => ⟨[(1, .loc 0 1 0 0), (5, .osl 1 (B2 ++ (m.t.take i).flatMap encT).length), (9, .int .i64 i)], [(1, .arr (R.ty 4) 1 (slc8 (B2 ++ (m.t.take i).flatMap encT))), (0, .var (R.ty 25) m.row)], 2⟩) (fun i => m.t.length - i) (0) ?_ ?_
              · exact Nat.zero_le _
              · intro i hi
                dsimp only
                refine sh ?_
                refine cS (fun h4 => ?_) (fun h4 => ?_)
                · obtain ⟨y, hy⟩ : ∃ u, m.t[i]? = some u := ⟨_, List.getElem?_eq_getElem (by omega)⟩
                  have hyy := may.pt y (List.mem_of_getElem? hy)
                  have hC : (B2 ++ (m.t.take i).flatMap encT).length ≤ 1200 := by
                    simp only [List.length_append, len_T, List.length_take]; omega
                  have hst : B2 ++ (m.t.take (i + 1)).flatMap encT = (B2 ++ (m.t.take i).flatMap encT) ++ encT y := by rw [flat_succ hy]; simp
                  generalize B2 ++ (m.t.take i).flatMap encT = C at hC hst ⊢
                  refine sh ?_
                  refine ILoop.one 100 ?_
                  refine sh ?_
                  refine acnd_t (by decide) ?_
                  refine sh ?_
                  refine eget_map hy ?_
                  refine sh ?_
                  refine ILoop.one 100 ?_
                  refine sh ?_
                  refine acnd_t (by decide) ?_
                  refine sh ?_
                  refine eget_map hy ?_
                  refine sh ?_
                  refine ILoop.one 100 ?_
                  refine sh ?_
                  refine acnd_t (by decide) ?_
                  refine sh ?_
                  refine eget_map hy ?_
                  refine sh ?_
                  refine ILoop.one 100 ?_
                  refine sh ?_
                  refine acnd_f (by decide) ?_
                  refine sh ?_
                  refine nX (i + 1) ?_ ?_ ⟨_, hp, rfl⟩ ?_ ?_
                  · omega
                  · omega
                  · all_goals repeat' (first | exact True.intro | refine And.intro ?_ ?_ | (intro _u; clear _u) | (with_reducible first | refine eM ?_ ?_ | refine eF ?_ ?_ ?_ | refine eN ?_ | refine eL ?_ ?_ ?_ | refine eA ?_ ?_ | refine IWk.mk ⟨_, hp, rfl⟩ ?_ ?_) | refine IWk.mk ⟨_, hp, rfl⟩ ?_ ?_)
                    all_goals first | with_reducible rfl | omega | exact Or.inl (by decide) | (simp; done) | rfl | skip
                    rw [hst]; simp [encT]
                  · all_goals repeat' (first | exact True.intro | refine And.intro ?_ ?_ | (intro _u; clear _u) | (with_reducible first | refine eM ?_ ?_ | refine eF ?_ ?_ ?_ | refine eN ?_ | refine eL ?_ ?_ ?_ | refine eA ?_ ?_ | refine IWk.mk ⟨_, hp, rfl⟩ ?_ ?_) | refine IWk.mk ⟨_, hp, rfl⟩ ?_ ?_)
                    all_goals first | with_reducible rfl | omega | exact Or.inl (by decide) | (simp; done) | rfl | skip
                    rw [hst]
                    have g1 : ((u8 y.a).toNat : Int) = y.a := u8_in (by omega)
                    have g2 : ((u8 y.b).toNat : Int) = y.b := u8_in (by omega)
                    have g3 : ((u8 y.c).toNat : Int) = y.c := u8_in (by omega)
                    simp [encT, slc8, g1, g2, g3]
                · rw [show m.t.take i = m.t from List.take_of_length_le (by omega)]
                  refine sh ?_
                  exact rT
end Go.UM

namespace Go.UM
open Go.AM
set_option maxRecDepth 4000
structure Mat where
  k : Int
  c : T3
  r : Int
def Mat.row (m : Mat) : List AV := [.int .i64 m.k, .int .i64 m.c.a, .int .i64 m.c.b, .int .i64 m.c.c, .int .i64 m.r]
structure Lig where
  k : Int
  c : T3
  p : T3
  u : T3
  v : T3
def Lig.row (l : Lig) : List AV := [.int .i64 l.k, .int .i64 l.c.a, .int .i64 l.c.b, .int .i64 l.c.c, .int .i64 l.p.a, .int .i64 l.p.b, .int .i64 l.p.c, .int .i64 l.u.a, .int .i64 l.u.b, .int .i64 l.u.c, .int .i64 l.v.a, .int .i64 l.v.b, .int .i64 l.v.c]
def outs (n x : Int) : Bool := decide (x < 0 ∨ n < x)
def matk (m : Mat) : Int := if m.k < 0 ∨ 4 < m.k ∨ m.r < 0 ∨ 65535 < m.r ∨ m.c.a < 0 ∨ 65535 < m.c.a ∨ m.c.b < 0 ∨ 65535 < m.c.b ∨ m.c.c < 0 ∨ 65535 < m.c.c then 5 else 0
def topM (R : Env) (n : Int) : IMem := [(0, .var (R.ty 10) [.int .i64 n])]
theorem outs_c {R : Env} (h : N322 R) (n x : Int) : R.Mc 322 [.int .i64 x, .loc 0 1 0 0] (topM R n) (.bool (outs n x)) (topM R n) 1 :=
  h.o322.enterM 60 1 rfl rfl rfl fun X bb hfit hp => by
    unfold outs
    refine sh ?_
    refine cS (fun h1 => ?_) (fun h1 => ?_)
    · refine sh ?_
      refine rM [0] ?_
      all_goals repeat' (first | exact True.intro | refine And.intro ?_ ?_ | (intro _u; clear _u) | (with_reducible first | refine eM ?_ ?_ | refine eF ?_ ?_ ?_ | refine eN ?_ | refine eL ?_ ?_ ?_ | refine eA ?_ ?_ | refine IWk.mk ⟨_, hp, rfl⟩ ?_ ?_) | refine IWk.mk ⟨_, hp, rfl⟩ ?_ ?_)
      all_goals first | with_reducible rfl | omega | exact Or.inl (by decide) | (simp; done) | rfl | skip
      simp; omega
    · refine sh ?_
      refine rM [0] ?_
      all_goals repeat' (first | exact True.intro | refine And.intro ?_ ?_ | (intro _u; clear _u) | (with_reducible first | refine eM ?_ ?_ | refine eF ?_ ?_ ?_ | refine eN ?_ | refine eL ?_ ?_ ?_ | refine eA ?_ ?_ | refine IWk.mk ⟨_, hp, rfl⟩ ?_ ?_) | refine IWk.mk ⟨_, hp, rfl⟩ ?_ ?_)
      all_goals first | with_reducible rfl | omega | exact Or.inl (by decide) | (simp; done) | rfl | skip
      rw [Bool.eq_iff_iff]; simp only [decide_eq_true_eq]; omega
theorem idx324_c {R : Env} (h : N324 R) (g : Nat) (l : List Int) (p : Int → Bool) (n : Int) (hc : ∀ x ∈ l, R.Mc g [.int .i64 x, .loc 0 1 0 0] (topM R n) (.bool (p x)) (topM R n) 1) (hl : l.length ≤ 1073741824) :
    R.Mc 324 [.isl 1 (slcK .i64 l), R.cl g [.loc 0 1 0 0]] (topM R n) (.int .i64 (fidx l p)) (topM R n) 1 :=
  h.o324.enterM 100 1 rfl rfl rfl fun X bb hfit hp => by
    refine sh ?_
    refine lPa 100 (fun i : Nat => i ≤ l.length ∧ (l.take i).any p = false) (fun i => ⟨[(0, .isl 1 (slcK .i64 l)), (1, R.cl g [.loc 0 1 0 0]), (7, .int .i64 l.length), (8, .int .i64 i)], topM R n, 1⟩) (fun i => l.length - i) (0) ?_ ?_
    · exact ⟨Nat.zero_le _, by simp⟩
    · intro i hi
      dsimp only
      refine sh ?_
      refine cS (fun h1 => ?_) (fun h1 => ?_)
      · obtain ⟨x, hx⟩ : ∃ u_, l[i]? = some u_ := ⟨_, List.getElem?_eq_getElem (by first | omega | (simp <;> omega))⟩
        refine sh ?_
        refine eget_map hx ?_
        refine sh ?_
        refine cM false [0] (hc x (List.mem_of_getElem? hx)) ?_
        repeat ((intro _u; clear _u); first | refine eK ?_ | refine eP ?_)
        refine sh ?_
        refine cS (fun h2 => ?_) (fun h2 => ?_)
        · refine sh ?_
          refine rM [0] ?_
          all_goals repeat' (first | exact True.intro | refine And.intro ?_ ?_ | (intro _u; clear _u) | (with_reducible first | refine eM ?_ ?_ | refine eF ?_ ?_ ?_ | refine eN ?_ | refine eL ?_ ?_ ?_ | refine eA ?_ ?_ | refine IWk.mk ⟨_, hp, rfl⟩ ?_ ?_) | refine IWk.mk ⟨_, hp, rfl⟩ ?_ ?_)
          all_goals first | with_reducible rfl | omega | exact Or.inl (by decide) | (simp; done) | rfl | skip
          unfold fidx
          rw [if_pos (any_at hx h2), fidx_at hx h2 hi.2]
        · refine sh ?_
          refine nXa (i + 1) ?_ ?_
          · refine ⟨by omega, ?_⟩
            rw [any_take_succ' hx, hi.2, h2]; rfl
          · omega
      · refine sh ?_
        refine rM [0] ?_
        all_goals repeat' (first | exact True.intro | refine And.intro ?_ ?_ | (intro _u; clear _u) | (with_reducible first | refine eM ?_ ?_ | refine eF ?_ ?_ ?_ | refine eN ?_ | refine eL ?_ ?_ ?_ | refine eA ?_ ?_ | refine IWk.mk ⟨_, hp, rfl⟩ ?_ ?_) | refine IWk.mk ⟨_, hp, rfl⟩ ?_ ?_)
        all_goals first | with_reducible rfl | omega | exact Or.inl (by decide) | (simp; done) | rfl | skip
        unfold fidx
        have h3 := hi.2
        rw [List.take_of_length_le (by omega)] at h3
        rw [if_neg (by simp [h3])]
theorem cont323_c {R : Env} (h : N323 R) (g : Nat) (l : List Int) (p : Int → Bool) (n : Int) (hc : ∀ x ∈ l, R.Mc g [.int .i64 x, .loc 0 1 0 0] (topM R n) (.bool (p x)) (topM R n) 1) (hl : l.length ≤ 1073741824) :
    R.Mc 323 [.isl 1 (slcK .i64 l), R.cl g [.loc 0 1 0 0]] (topM R n) (.bool (l.any p)) (topM R n) 1 :=
  h.o323.enterM 100 1 rfl rfl rfl fun X bb hfit hp => by
    refine sh ?_
    refine cM false [0] (idx324_c h.n324 g l p n hc hl) ?_
    repeat ((intro _u; clear _u); first | refine eK ?_ | refine eP ?_)
    refine sh ?_
    refine rM [0] ?_
    all_goals repeat' (first | exact True.intro | refine And.intro ?_ ?_ | (intro _u; clear _u) | (with_reducible first | refine eM ?_ ?_ | refine eF ?_ ?_ ?_ | refine eN ?_ | refine eL ?_ ?_ ?_ | refine eA ?_ ?_ | refine IWk.mk ⟨_, hp, rfl⟩ ?_ ?_) | refine IWk.mk ⟨_, hp, rfl⟩ ?_ ?_)
    all_goals first | with_reducible rfl | omega | exact Or.inl (by decide) | (simp; done) | rfl | skip
    exact fidx_ge
theorem outside_c {R : Env} (h : N307 R) (n : Int) (l : List Int) (hl : l.length ≤ 1073741824) : R.Pc 307 [.int .i64 n, .isl 1 (slcK .i64 l)] (.bool (l.any (outs n))) :=
  h.o307.enter 100 rfl fun X bb hfit hp => by
    refine sh ?_
    refine cM false [0] (cont323_c h.n323 322 l (outs n) n (fun x _ => outs_c h.n322 n x) hl) ?_
    repeat ((intro _u; clear _u); first | refine eK ?_ | refine eP ?_)
    refine sh ?_
    exact rT
theorem matk_c {R : Env} (h : N290 R) (m : Mat) : R.Pc 290 [.agg m.row] (.int .i64 (matk m)) :=
  h.o290.enter 100 rfl fun X bb hfit hp => by
    generalize hq : matk m = q
    refine sh ?_
    refine cM true [] ((outside_c h.n307 4 [m.k] (by simp)).mc h.n307.o307.hb) ?_
    repeat ((intro _u; clear _u); first | refine eK ?_ | refine eP ?_)
    refine sh ?_
    refine cS (fun h1 => ?_) (fun h1 => ?_)
    · simp [outs] at h1
      rw [matk, if_pos (by omega)] at hq
      subst hq
      refine sh ?_
      exact rT
    · refine sh ?_
      refine cM true [] ((outside_c h.n307 65535 [m.c.a, m.c.b, m.c.c, m.r] (by simp)).mc h.n307.o307.hb) ?_
      repeat ((intro _u; clear _u); first | refine eK ?_ | refine eP ?_)
      refine sh ?_
      refine cS (fun h2 => ?_) (fun h2 => ?_)
      · simp [outs] at h2
        rw [matk, if_pos (by omega)] at hq
        subst hq
        refine sh ?_
        exact rT
      · simp [outs] at h1 h2
        rw [matk, if_neg (by omega)] at hq
        subst hq
        refine sh ?_
        exact rT
def z3b (p : T3) : Bool := p.a == 0 && (p.b == 0 && p.c == 0)
def ligk (l : Lig) : Int := if l.k < 0 ∨ 2 < l.k ∨ l.c.a < 0 ∨ 1048576 < l.c.a ∨ l.c.b < 0 ∨ 1048576 < l.c.b ∨ l.c.c < 0 ∨ 1048576 < l.c.c then 5
  else if off3 l.p = true ∨ off3 l.u = true ∨ off3 l.v = true then 8
  else if l.k = 2 ∧ z3b l.p = false ∨ l.k ≠ 1 ∧ (z3b l.u = false ∨ z3b l.v = false) then 5 else 0
theorem off308_c {R : Env} (h : N308 R) (p : T3) : R.Pc 308 [.agg (t3 p)] (.bool (off3 p)) :=
  h.o308.enter 60 rfl fun X bb hfit hp => by
    unfold off3
    refine sh ?_
    refine cS (fun h1 => ?_) (fun h1 => ?_)
    · refine sh ?_
      refine rT ?_
      all_goals repeat' (first | exact True.intro | refine And.intro ?_ ?_ | (intro _u; clear _u) | (with_reducible first | refine eM ?_ ?_ | refine eF ?_ ?_ ?_ | refine eN ?_ | refine eL ?_ ?_ ?_ | refine eA ?_ ?_ | refine IWk.mk ⟨_, hp, rfl⟩ ?_ ?_) | refine IWk.mk ⟨_, hp, rfl⟩ ?_ ?_)
      all_goals first | with_reducible rfl | omega | exact Or.inl (by decide) | (simp; done) | rfl | skip
      simp; omega
    · refine sh ?_
      refine rT ?_
      all_goals repeat' (first | exact True.intro | refine And.intro ?_ ?_ | (intro _u; clear _u) | (with_reducible first | refine eM ?_ ?_ | refine eF ?_ ?_ ?_ | refine eN ?_ | refine eL ?_ ?_ ?_ | refine eA ?_ ?_ | refine IWk.mk ⟨_, hp, rfl⟩ ?_ ?_) | refine IWk.mk ⟨_, hp, rfl⟩ ?_ ?_)
      all_goals first | with_reducible rfl | omega | exact Or.inl (by decide) | (simp; done) | rfl | skip
      rw [Bool.eq_iff_iff]; simp only [Bool.not_eq_true', decide_eq_true_eq, decide_eq_false_iff_not]; omega
theorem ligk_c {R : Env} (h : N292 R) (l : Lig) : R.Pc 292 [.agg l.row] (.int .i64 (ligk l)) :=
  h.o292.enter 100 rfl fun X bb hfit hp => by
    generalize hq : ligk l = q
    refine sh ?_
    refine ICall.let [0] rfl hp rfl ?_
    repeat ((intro _u; clear _u); first | refine eZ ?_ | refine eZ ?_ (by simp; omega) | refine FrzC.drop ?_)
    refine sh ?_
    refine cM true [] ((outside_c h.n307 2 [l.k] (by simp)).mc h.n307.o307.hb) ?_
    repeat ((intro _u; clear _u); first | refine eK ?_ | refine eP ?_)
    refine sh ?_
    refine cS (fun h1 => ?_) (fun h1 => ?_)
    · simp [outs] at h1
      rw [ligk, if_pos (by omega)] at hq
      subst hq
      refine sh ?_
      exact rT
    · refine sh ?_
      refine ICall.pure h.n307.o307.hb (outside_c h.n307 1048576 [l.c.a, l.c.b, l.c.c] (by simp)) rfl ?_
      refine sh ?_
      refine cS (fun h2 => ?_) (fun h2 => ?_)
      · simp [outs] at h2
        rw [ligk, if_pos (by omega)] at hq
        subst hq
        refine sh ?_
        exact rT
      · simp [outs] at h1 h2
        rw [ligk, if_neg (by omega)] at hq
        refine sh ?_
        refine ICall.pure h.n308.o308.hb (off308_c h.n308 l.p) rfl ?_
        refine sh ?_
        refine cS (fun h3 => ?_) (fun h3 => ?_)
        · rw [if_pos (.inl h3)] at hq
          subst hq
          refine sh ?_
          exact rT
        · refine sh ?_
          refine ICall.pure h.n308.o308.hb (off308_c h.n308 l.u) rfl ?_
          refine sh ?_
          refine cS (fun h4 => ?_) (fun h4 => ?_)
          · rw [if_pos (.inr (.inl h4))] at hq
            subst hq
            refine sh ?_
            exact rT
          · refine sh ?_
            refine ICall.pure h.n308.o308.hb (off308_c h.n308 l.v) rfl ?_
            refine sh ?_
            refine cS (fun h5 => ?_) (fun h5 => ?_)
            · rw [if_pos (.inr (.inr h5))] at hq
              subst hq
              refine sh ?_
              exact rT
            · rw [if_neg (by simp [h3, h4, h5])] at hq
              refine sh ?_
              refine cS (fun h6 => ?_) (fun h6 => ?_)
              · refine sh ?_
                refine cS (fun h7 => ?_) (fun h7 => ?_)
                · rw [if_pos (.inl ⟨h6, h7⟩)] at hq
                  subst hq
                  refine sh ?_
                  exact rT
                · refine sh ?_
                  refine cS (fun h8 => ?_) (fun h8 => ?_)
                  · rw [if_pos (.inr ⟨by omega, .inl h8⟩)] at hq
                    subst hq
                    refine sh ?_
                    exact rT
                  · refine sh ?_
                    refine cS (fun h9 => ?_) (fun h9 => ?_)
                    · rw [if_pos (.inr ⟨by omega, .inr h9⟩)] at hq
                      subst hq
                      refine sh ?_
                      exact rT
                    · rw [if_neg (by simp [z3b, h7, h8, h9])] at hq
                      subst hq
                      refine sh ?_
                      exact rT
              · refine sh ?_
                refine cS (fun h7 => ?_) (fun h7 => ?_)
                · refine sh ?_
                  refine cS (fun h8 => ?_) (fun h8 => ?_)
                  · rw [if_pos (.inr ⟨by omega, .inl h8⟩)] at hq
                    subst hq
                    refine sh ?_
                    exact rT
                  · refine sh ?_
                    refine cS (fun h9 => ?_) (fun h9 => ?_)
                    · rw [if_pos (.inr ⟨by omega, .inr h9⟩)] at hq
                      subst hq
                      refine sh ?_
                      exact rT
                    · rw [if_neg (by simp [z3b, h6, h8, h9])] at hq
                      subst hq
                      refine sh ?_
                      exact rT
                · have h10 : l.k = 1 := by omega
                  rw [if_neg (by simp [h10])] at hq
                  subst hq
                  refine sh ?_
                  exact rT
theorem rmatk_c {R : Env} (h : N291 R) (m : Mat) : R.Pc 291 [.agg m.row] (.int .i64 (matk m)) :=
  h.o291.enter 100 rfl fun X bb hfit hp => by
    generalize hq : matk m = q
    refine sh ?_
    refine cS (fun h1 => ?_) (fun h1 => ?_)
    · rw [matk, if_pos (by omega)] at hq
      subst hq
      refine sh ?_
      exact rT
    · refine sh ?_
      refine cS (fun h2 => ?_) (fun h2 => ?_)
      · rw [matk, if_pos (by omega)] at hq
        subst hq
        refine sh ?_
        exact rT
      · refine sh ?_
        refine cS (fun h3 => ?_) (fun h3 => ?_)
        · rw [matk, if_pos (by omega)] at hq
          subst hq
          refine sh ?_
          exact rT
        · refine sh ?_
          refine cS (fun h4 => ?_) (fun h4 => ?_)
          · rw [matk, if_pos (by omega)] at hq
            subst hq
            refine sh ?_
            exact rT
          · refine sh ?_
            refine ILoop.one 100 ?_
            refine sh ?_
            refine acnd_t (by decide) ?_
            refine sh ?_
            refine cS (fun a1 => ?_) (fun a1 => ?_)
            · rw [matk, if_pos (by omega)] at hq
              subst hq
              refine sh ?_
              exact rT
            · refine sh ?_
              refine cS (fun a2 => ?_) (fun a2 => ?_)
              · rw [matk, if_pos (by omega)] at hq
                subst hq
                refine sh ?_
                exact rT
              · refine sh ?_
                refine ILoop.one 100 ?_
                refine sh ?_
                refine acnd_t (by decide) ?_
                refine sh ?_
                refine cS (fun b1 => ?_) (fun b1 => ?_)
                · rw [matk, if_pos (by omega)] at hq
                  subst hq
                  refine sh ?_
                  exact rT
                · refine sh ?_
                  refine cS (fun b2 => ?_) (fun b2 => ?_)
                  · rw [matk, if_pos (by omega)] at hq
                    subst hq
                    refine sh ?_
                    exact rT
                  · refine sh ?_
                    refine ILoop.one 100 ?_
                    refine sh ?_
                    refine acnd_t (by decide) ?_
                    refine sh ?_
                    refine cS (fun c1 => ?_) (fun c1 => ?_)
                    · rw [matk, if_pos (by omega)] at hq
                      subst hq
                      refine sh ?_
                      exact rT
                    · refine sh ?_
                      refine cS (fun c2 => ?_) (fun c2 => ?_)
                      · rw [matk, if_pos (by omega)] at hq
                        subst hq
                        refine sh ?_
                        exact rT
                      · refine sh ?_
                        refine ILoop.one 100 ?_
                        refine sh ?_
                        refine acnd_f (by decide) ?_
                        rw [matk, if_neg (by omega)] at hq
                        subst hq
                        refine sh ?_
                        exact rT
theorem rligk_c {R : Env} (h : N293 R) (l : Lig) : R.Pc 293 [.agg l.row] (.int .i64 (ligk l)) :=
  h.o293.enter 100 rfl fun X bb hfit hp => by
    generalize hq : ligk l = q
    refine sh ?_
    refine cS (fun h1 => ?_) (fun h1 => ?_)
    · rw [ligk, if_pos (by omega)] at hq
      subst hq
      refine sh ?_
      exact rT
    · refine sh ?_
      refine cS (fun h2 => ?_) (fun h2 => ?_)
      · rw [ligk, if_pos (by omega)] at hq
        subst hq
        refine sh ?_
        exact rT
      · refine sh ?_
        refine ILoop.one 100 ?_
        refine sh ?_
        refine acnd_t (by decide) ?_
        refine sh ?_
        refine cS (fun a1 => ?_) (fun a1 => ?_)
        · rw [ligk, if_pos (by omega)] at hq
          subst hq
          refine sh ?_
          exact rT
        · refine sh ?_
          refine cS (fun a2 => ?_) (fun a2 => ?_)
          · rw [ligk, if_pos (by omega)] at hq
            subst hq
            refine sh ?_
            exact rT
          · refine sh ?_
            refine ILoop.one 100 ?_
            refine sh ?_
            refine acnd_t (by decide) ?_
            refine sh ?_
            refine cS (fun b1 => ?_) (fun b1 => ?_)
            · rw [ligk, if_pos (by omega)] at hq
              subst hq
              refine sh ?_
              exact rT
            · refine sh ?_
              refine cS (fun b2 => ?_) (fun b2 => ?_)
              · rw [ligk, if_pos (by omega)] at hq
                subst hq
                refine sh ?_
                exact rT
              · refine sh ?_
                refine ILoop.one 100 ?_
                refine sh ?_
                refine acnd_t (by decide) ?_
                refine sh ?_
                refine cS (fun c1 => ?_) (fun c1 => ?_)
                · rw [ligk, if_pos (by omega)] at hq
                  subst hq
                  refine sh ?_
                  exact rT
                · refine sh ?_
                  refine cS (fun c2 => ?_) (fun c2 => ?_)
                  · rw [ligk, if_pos (by omega)] at hq
                    subst hq
                    refine sh ?_
                    exact rT
                  · refine sh ?_
                    refine ILoop.one 100 ?_
                    refine sh ?_
                    refine acnd_f (by decide) ?_
                    rw [ligk, if_neg (by omega)] at hq
                    refine sh ?_
                    refine ICall.pure h.n213.o213.hb (roff_c h.n213 l.p) rfl ?_
                    refine sh ?_
                    refine cS (fun h3 => ?_) (fun h3 => ?_)
                    · rw [if_pos (.inl h3)] at hq
                      subst hq
                      refine sh ?_
                      exact rT
                    · refine sh ?_
                      refine ICall.pure h.n213.o213.hb (roff_c h.n213 l.u) rfl ?_
                      refine sh ?_
                      refine cS (fun h4 => ?_) (fun h4 => ?_)
                      · rw [if_pos (.inr (.inl h4))] at hq
                        subst hq
                        refine sh ?_
                        exact rT
                      · refine sh ?_
                        refine ICall.pure h.n213.o213.hb (roff_c h.n213 l.v) rfl ?_
                        refine sh ?_
                        refine cS (fun h5 => ?_) (fun h5 => ?_)
                        · rw [if_pos (.inr (.inr h5))] at hq
                          subst hq
                          refine sh ?_
                          exact rT
                        · rw [if_neg (by simp [h3, h4, h5])] at hq
                          refine sh ?_
                          refine cS (fun h6 => ?_) (fun h6 => ?_)
                          · refine sh ?_
                            refine cS (fun h7 => ?_) (fun h7 => ?_)
                            · rw [if_pos (.inl ⟨h6, h7⟩)] at hq
                              subst hq
                              refine sh ?_
                              exact rT
                            · refine sh ?_
                              refine acnd_t (by (simp [h6])) ?_
                              refine sh ?_
                              refine cS (fun h8 => ?_) (fun h8 => ?_)
                              · rw [if_pos (.inr ⟨by omega, .inl h8⟩)] at hq
                                subst hq
                                refine sh ?_
                                exact rT
                              · refine sh ?_
                                refine cS (fun h9 => ?_) (fun h9 => ?_)
                                · rw [if_pos (.inr ⟨by omega, .inr h9⟩)] at hq
                                  subst hq
                                  refine sh ?_
                                  exact rT
                                · rw [if_neg (by simp [z3b, h7, h8, h9])] at hq
                                  subst hq
                                  refine sh ?_
                                  exact rT
                          · refine sh ?_
                            refine cS (fun h7 => ?_) (fun h7 => ?_)
                            refine sh ?_
                            refine cS (fun h8 => ?_) (fun h8 => ?_)
                            · rw [if_pos (.inr ⟨by omega, .inl h8⟩)] at hq
                              subst hq
                              refine sh ?_
                              exact rT
                            · refine sh ?_
                              refine cS (fun h9 => ?_) (fun h9 => ?_)
                              · rw [if_pos (.inr ⟨by omega, .inr h9⟩)] at hq
                                subst hq
                                refine sh ?_
                                exact rT
                              · rw [if_neg (by simp [z3b, h6, h8, h9])] at hq
                                subst hq
                                refine sh ?_
                                exact rT
                            · have h10 : l.k = 1 := by omega
                              rw [if_neg (by simp [h10])] at hq
                              subst hq
                              refine sh ?_
                              exact rT
end Go.UM

namespace Go.UM
open Go.AM
set_option maxRecDepth 4000
def idx (l : List Int) (x : Int) : Int := if x ∈ l then (l.idxOf x : Int) else -1
theorem idxOf_at {x : Int} : ∀ {l : List Int} {i : Nat}, l[i]? = some x → x ∉ l.take i → l.idxOf x = i
  | [], _, h, _ => by simp at h
  | a :: r, 0, h, _ => by simp at h; simp [h]
  | a :: r, i + 1, h, hn => by
    simp only [List.take_succ_cons, List.mem_cons, not_or] at hn
    rw [List.idxOf_cons]
    have : (a == x) = false := by simpa using fun e => hn.1 e.symm
    rw [this, idxOf_at (by simpa using h) hn.2]
    rfl
theorem index_c {R : Env} (h : N106 R) (l : List Int) (x : Int) (hl : l.length ≤ 1073741824) : R.Pc 106 [.isl 1 (slcK .i64 l), .int .i64 x] (.int .i64 (idx l x)) :=
  h.o106.enter 100 rfl fun X bb hfit hp => by
    refine sh ?_
    refine lPa 100 (fun i : Nat => i ≤ l.length ∧ x ∉ l.take i) (fun i => ⟨[(0, .isl 1 (slcK .i64 l)), (1, .int .i64 x), (7, .int .i64 l.length), (8, .int .i64 i)], [], 0⟩) (fun i => l.length - i) (0) ?_ ?_
    · exact ⟨Nat.zero_le _, by simp⟩
    · intro i hi
      dsimp only
      refine sh ?_
      refine cS (fun h1 => ?_) (fun h1 => ?_)
      · obtain ⟨y, hy⟩ : ∃ u_, l[i]? = some u_ := ⟨_, List.getElem?_eq_getElem (by first | omega | (simp <;> omega))⟩
        refine sh ?_
        refine eget_map hy ?_
        refine sh ?_
        refine cS (fun h2 => ?_) (fun h2 => ?_)
        · subst h2
          refine sh ?_
          refine rT ?_
          all_goals repeat' (first | exact True.intro | refine And.intro ?_ ?_ | (intro _u; clear _u) | (with_reducible first | refine eM ?_ ?_ | refine eF ?_ ?_ ?_ | refine eN ?_ | refine eL ?_ ?_ ?_ | refine eA ?_ ?_ | refine IWk.mk ⟨_, hp, rfl⟩ ?_ ?_) | refine IWk.mk ⟨_, hp, rfl⟩ ?_ ?_)
          all_goals first | with_reducible rfl | omega | exact Or.inl (by decide) | (simp; done) | rfl | skip
          unfold idx
          rw [if_pos (List.mem_of_getElem? hy), idxOf_at hy hi.2]
        · refine sh ?_
          refine nXa (i + 1) ?_ ?_
          · refine ⟨by omega, ?_⟩
            rw [take_succ_get hy]
            simp only [List.mem_append, List.mem_singleton, not_or]
            exact ⟨hi.2, h2⟩
          · omega
      · refine sh ?_
        refine rT ?_
        all_goals repeat' (first | exact True.intro | refine And.intro ?_ ?_ | (intro _u; clear _u) | (with_reducible first | refine eM ?_ ?_ | refine eF ?_ ?_ ?_ | refine eN ?_ | refine eL ?_ ?_ ?_ | refine eA ?_ ?_ | refine IWk.mk ⟨_, hp, rfl⟩ ?_ ?_) | refine IWk.mk ⟨_, hp, rfl⟩ ?_ ?_)
        all_goals first | with_reducible rfl | omega | exact Or.inl (by decide) | (simp; done) | rfl | skip
        unfold idx
        rw [if_neg]
        rw [← List.take_of_length_le (l := l) (i := i) (by omega)]
        exact hi.2
theorem contains_c {R : Env} (h : N100 R) (l : List Int) (x : Int) (hl : l.length ≤ 1073741824) : R.Pc 100 [.isl 1 (slcK .i64 l), .int .i64 x] (.bool (decide (x ∈ l))) :=
  h.o100.enter 100 rfl fun X bb hfit hp => by
    refine sh ?_
    refine ICall.pure h.n106.o106.hb (index_c h.n106 l x hl) rfl ?_
    refine sh ?_
    refine rT ?_
    all_goals repeat' (first | exact True.intro | refine And.intro ?_ ?_ | (intro _u; clear _u) | (with_reducible first | refine eM ?_ ?_ | refine eF ?_ ?_ ?_ | refine eN ?_ | refine eL ?_ ?_ ?_ | refine eA ?_ ?_ | refine IWk.mk ⟨_, hp, rfl⟩ ?_ ?_) | refine IWk.mk ⟨_, hp, rfl⟩ ?_ ?_)
    all_goals first | with_reducible rfl | omega | exact Or.inl (by decide) | (simp; done) | rfl | skip
    unfold idx
    by_cases hx : x ∈ l
    · rw [if_pos hx]; simp [hx]
    · rw [if_neg hx]; simp [hx]
end Go.UM

namespace Go.UM
open Go.AM
set_option maxRecDepth 4000
structure Tex where
  side : Int
  t : List T3
def Tex.row (x : Tex) : List AV := [.int .i64 x.side, .isl 3 (slc3 x.t)]
def T3.good (x : T3) : Bool := decide (0 ≤ x.a) && decide (0 ≤ x.b) && decide (0 ≤ x.c) && decide (x.a ≤ 255) && decide (x.b ≤ 255) && decide (x.c ≤ 255)
theorem T3.good_iff (x : T3) : x.good = true ↔ (0 ≤ x.a ∧ x.a ≤ 255) ∧ (0 ≤ x.b ∧ x.b ≤ 255) ∧ 0 ≤ x.c ∧ x.c ≤ 255 := by
  simp only [T3.good, Bool.and_eq_true, decide_eq_true_eq]
  omega
def sides : List Int := [1, 2, 4, 8, 16]
def tchk (x : Tex) : Int := if x.side ∉ sides ∨ (x.t.length : Int) ≠ x.side * x.side then 5 else if x.t.all T3.good = true then 0 else 5
theorem tchk_in {x : Tex} (h : x.side ∈ sides) : x.side = 1 ∨ x.side = 2 ∨ x.side = 4 ∨ x.side = 8 ∨ x.side = 16 := by
  simpa [sides] using h
theorem tchk_bad {x : Tex} {y : T3} (hy : y ∈ x.t) (h : y.good = false) : tchk x = 5 := by
  unfold tchk
  split
  · rfl
  · rw [if_neg]
    intro ha
    rw [List.all_eq_true.1 ha y hy] at h
    exact Bool.noConfusion h
theorem all_take_succ {α : Type} {n : List α} {k : Nat} {x : α} {p : α → Bool} (h : n[k]? = some x) : (n.take (k + 1)).all p = ((n.take k).all p && p x) := by
  rw [take_succ_get h]; simp
theorem tchk_c {R : Env} (h : N84 R) (x : Tex) (hl : x.t.length ≤ 1073741824) : R.Pc 84 [.agg x.row] (.int .i64 (tchk x)) :=
  h.o84.enter 100 rfl fun X bb hfit hp => by
    refine sh ?_
    refine cM true [] ((contains_c h.n100 sides x.side (by decide)).mc h.n100.o100.hb) ?_
    repeat ((intro _u; clear _u); first | refine eK ?_ | refine eP ?_)
    generalize hq : tchk x = q
    refine sh ?_
    refine cS (fun h1 => ?_) (fun h1 => ?_)
    · rw [tchk, if_pos (.inl h1)] at hq
      subst hq
      refine sh ?_
      exact rT
    · have h2 := tchk_in h1
      have hsq : x.side * x.side ≤ 256 ∧ 0 ≤ x.side * x.side := by
        rcases h2 with h | h | h | h | h <;> rw [h] <;> decide
      refine sh ?_
      refine cS (fun h3 => ?_) (fun h3 => ?_)
      · rw [tchk, if_pos (.inr h3)] at hq
        subst hq
        refine sh ?_
        exact rT
      · have hz : ¬ (x.side ∉ sides ∨ (x.t.length : Int) ≠ x.side * x.side) := by simp [h1, h3]
        refine sh ?_
        refine lPa 100 (fun i : Nat => i ≤ x.t.length ∧ (x.t.take i).all T3.good = true) (fun i => ⟨[(22, .isl 3 (slc3 x.t)), (23, .int .i64 x.t.length), (24, .int .i64 i)], [], 10⟩) (fun i => x.t.length - i) (0) ?_ ?_
        · exact ⟨Nat.zero_le _, rfl⟩
        · intro i hi
          dsimp only
          refine sh ?_
          refine cS (fun h4 => ?_) (fun h4 => ?_)
          · obtain ⟨y, hy⟩ : ∃ u_, x.t[i]? = some u_ := ⟨_, List.getElem?_eq_getElem (by first | omega | (simp <;> omega))⟩
            refine sh ?_
            refine eget_map hy ?_
            have hyg := T3.good_iff y
            refine sh ?_
            refine cS (fun h5 => ?_) (fun h5 => ?_)
            · have hb : y.good = false := by rw [Bool.eq_false_iff, ne_eq, hyg]; omega
              rw [tchk_bad (List.mem_of_getElem? hy) hb] at hq
              subst hq
              refine sh ?_
              exact rT
            · refine sh ?_
              refine cS (fun h6 => ?_) (fun h6 => ?_)
              · have hb : y.good = false := by rw [Bool.eq_false_iff, ne_eq, hyg]; omega
                rw [tchk_bad (List.mem_of_getElem? hy) hb] at hq
                subst hq
                refine sh ?_
                exact rT
              · refine sh ?_
                refine nXa (i + 1) ?_ ?_
                · refine ⟨by omega, ?_⟩
                  rw [all_take_succ hy, hi.2, Bool.true_and, hyg]
                  omega
                · omega
          · rw [tchk, if_neg hz, if_pos] at hq
            · subst hq
              refine sh ?_
              exact rT
            · have := hi.2
              rwa [List.take_of_length_le (by omega)] at this
end Go.UM

namespace Go.UM
open Go.AM
set_option maxRecDepth 4000
structure TexOk (t : Tex) : Prop where
  s : t.side ∈ sides
  l : (t.t.length : Int) = t.side * t.side
  g : t.t.all T3.good = true
theorem tchk_ok {t : Tex} (h : tchk t = 0) : TexOk t := by
  unfold tchk at h
  split at h
  · exact absurd h (by decide)
  · rename_i h1
    split at h
    · rename_i h2
      simp only [not_or, Decidable.not_not] at h1
      exact ⟨h1.1, h1.2, h2⟩
    · exact absurd h (by decide)
theorem TexOk.chk {t : Tex} (h : TexOk t) : tchk t = 0 := by
  unfold tchk
  rw [if_neg (by simp [h.s, h.l]), if_pos h.g]
theorem and_mask {y s : Int} (hs : s ∈ sides) (hy : inI .i64 y) : bit2 .and .i64 y (s - 1) = y % s := by
  have hs := by simpa [sides] using hs
  simp only [inI] at hy
  have e : bit2 .and .i64 y (s - 1) = wr .i64 ((BitVec.ofInt 64 y &&& BitVec.ofInt 64 (s - 1)).toNat : Int) := rfl
  have key : ∀ k : Nat, k ≤ 4 → s = 2 ^ k → bit2 .and .i64 y (s - 1) = y % s := by
    intro k hk hsk
    have hp : (2 : Nat) ^ k ≤ 2 ^ 4 := Nat.pow_le_pow_right (by decide) hk
    have hp0 : 0 < (2 : Nat) ^ k := Nat.pow_pos (by decide)
    have hsn : s = ((2 ^ k : Nat) : Int) := by rw [hsk, Int.natCast_pow]; rfl
    have h1 : (BitVec.ofInt 64 (s - 1)).toNat = 2 ^ k - 1 := by
      rw [ofInt_toNat (by omega) (by omega)]
      omega
    have h2 : (BitVec.ofInt 64 y).toNat = (y % 18446744073709551616).toNat := by
      rw [BitVec.toNat_ofInt]
      rfl
    rw [e, BitVec.toNat_and, h1, h2, Nat.and_two_pow_sub_one_eq_mod, wr_nat_i64 (by have := Nat.mod_lt (y % 18446744073709551616).toNat hp0; omega)]
    rw [Int.natCast_emod, ← hsn, Int.toNat_of_nonneg (Int.emod_nonneg _ (by decide))]
    apply Int.emod_emod_of_dvd
    rw [hsn, show (18446744073709551616 : Int) = ((2 ^ 64 : Nat) : Int) from rfl]
    exact Int.natCast_dvd_natCast.2 (Nat.pow_dvd_pow 2 (show k ≤ 64 by omega))
  rcases hs with h | h | h | h | h
  · exact key 0 (by decide) h
  · exact key 1 (by decide) h
  · exact key 2 (by decide) h
  · exact key 3 (by decide) h
  · exact key 4 (by decide) h
def Tex.ix (t : Tex) (x y : Int) : Nat := (y % t.side * t.side + x % t.side).toNat
def Tex.at (t : Tex) (x y : Int) : T3 := t.t.getD (t.ix x y) ⟨0, 0, 0⟩
theorem TexOk.ix {t : Tex} (h : TexOk t) (x y : Int) : 0 ≤ y % t.side ∧ y % t.side < t.side ∧ 0 ≤ x % t.side ∧ x % t.side < t.side ∧ t.side ≤ 16 ∧ 1 ≤ t.side ∧ 0 ≤ y % t.side * t.side ∧ y % t.side * t.side + x % t.side < t.side * t.side ∧ t.side * t.side ≤ 256 := by
  have hs := tchk_in h.s
  have h1 : 1 ≤ t.side ∧ t.side ≤ 16 := by omega
  have h2 := Int.emod_nonneg y (show t.side ≠ 0 by omega)
  have h3 := Int.emod_lt_of_pos y (show 0 < t.side by omega)
  have h4 := Int.emod_nonneg x (show t.side ≠ 0 by omega)
  have h5 := Int.emod_lt_of_pos x (show 0 < t.side by omega)
  have h6 : y % t.side * t.side ≤ (t.side - 1) * t.side := Int.mul_le_mul_of_nonneg_right (by omega) (by omega)
  have h7 : 0 ≤ y % t.side * t.side := Int.mul_nonneg h2 (by omega)
  have h8 : t.side * t.side ≤ 16 * 16 := Int.mul_le_mul h1.2 h1.2 (by omega) (by decide)
  rw [Int.sub_mul] at h6
  exact ⟨h2, h3, h4, h5, h1.2, h1.1, h7, by omega, by omega⟩
theorem TexOk.get {t : Tex} (h : TexOk t) (x y : Int) : t.t[(y % t.side * t.side + x % t.side).toNat]? = some (t.at x y) := by
  have hi := h.ix x y
  have hl := h.l
  have : (y % t.side * t.side + x % t.side).toNat < t.t.length := by omega
  unfold Tex.at Tex.ix
  rw [List.getD_eq_getElem?_getD, List.getElem?_eq_getElem this]
  rfl
theorem at_c {R : Env} (h : N104 R) (t : Tex) (ok : TexOk t) (x y : Int) (hx : inI .i64 x) (hy : inI .i64 y) : R.Pc 104 [.agg t.row, .int .i64 x, .int .i64 y] (.agg (t3 (t.at x y))) :=
  h.o104.enter 100 rfl fun X bb hfit hp => by
    have hi := ok.ix x y
    have hl := ok.l
    have hg := ok.get x y
    refine sh ?_
    rw [and_mask ok.s hy]
    refine wI ?_
    refine sh ?_
    rw [and_mask ok.s hx]
    refine wI ?_
    refine sh ?_
    refine eget_map hg ?_
    refine sh ?_
    exact rT
def avg (a b c d : T3) : T3 := ⟨(a.a + b.a + c.a + d.a + 2) / 4, (a.b + b.b + c.b + d.b + 2) / 4, (a.c + b.c + c.c + d.c + 2) / 4⟩
def Tex.next (t : Tex) (s i : Int) : T3 := avg (t.at (2 * (i % s)) (2 * (i / s))) (t.at (2 * (i % s) + 1) (2 * (i / s))) (t.at (2 * (i % s)) (2 * (i / s) + 1)) (t.at (2 * (i % s) + 1) (2 * (i / s) + 1))
def nexts (t : Tex) (k : Nat) : List T3 := (List.range k).map fun i : Nat => t.next (t.side / 2) (i : Int)
def Tex.half (t : Tex) : Tex := ⟨t.side / 2, nexts t (t.side / 2 * (t.side / 2)).toNat⟩
theorem nexts_succ (t : Tex) (k : Nat) : nexts t (k + 1) = nexts t k ++ [t.next (t.side / 2) k] := by simp [nexts, List.range_succ]
@[simp] theorem nexts_zero (t : Tex) : nexts t 0 = [] := rfl
@[simp] theorem nexts_length (t : Tex) (k : Nat) : (nexts t k).length = k := by simp [nexts]
theorem TexOk.at_good {t : Tex} (h : TexOk t) (x y : Int) : (t.at x y).good = true := List.all_eq_true.1 h.g _ (List.mem_of_getElem? (h.get x y))
theorem half_c {R : Env} (h : N103 R) (t : Tex) (ok : TexOk t) : R.Pc 103 [.agg t.row] (.agg t.half.row) :=
  h.o103.enter 200 rfl fun X bb hfit hp => by
    have hs := tchk_in ok.s
    have hs2 : t.side.tdiv 2 = t.side / 2 := Int.tdiv_eq_ediv_of_nonneg (by omega)
    generalize hh : t.side / 2 = s at hs2
    have hs8 : 0 ≤ s ∧ s ≤ 8 := by omega
    have hsq : 0 ≤ s * s ∧ s * s ≤ 8 * 8 := ⟨Int.mul_nonneg hs8.1 hs8.1, Int.mul_le_mul hs8.2 hs8.2 hs8.1 (by decide)⟩
    refine sh ?_
    rw [hs2]
    refine wI ?_
    refine sh ?_
    refine lPa 200 (fun i : Nat => (i : Int) ≤ s * s) (fun i => ⟨[(1, .loc 0 1 0 0), (2, .loc 1 1 0 0), (3, .loc 2 1 0 0), (21, .int .i64 (s * s)), (22, .int .i64 i)], [(3, .arr (R.ty 13) 3 (slc3 (nexts t i))), (2, .var (R.ty 12) [.int .i64 s, .osl 3 i]), (1, .var (R.ty 12) [.int .i64 0, .nils]), (0, .var (R.ty 12) t.row)], 4⟩) (fun i => (s * s).toNat - i) (0) ?_ ?_
    · exact hsq.1
    · intro i hi
      dsimp only
      refine sh ?_
      refine cS (fun h1 => ?_) (fun h1 => ?_)
      · have hsp : 0 < s := by
          rcases Int.lt_or_le 0 s with h | h
          · exact h
          · have : s = 0 := by omega
            rw [this] at h1
            omega
        have hm := Int.emod_nonneg (i : Int) (show s ≠ 0 by omega)
        have hm2 := Int.emod_lt_of_pos (i : Int) hsp
        have hd := Int.ediv_nonneg (show 0 ≤ (i : Int) by omega) (show 0 ≤ s by omega)
        have hd2 : (i : Int) / s < s := Int.ediv_lt_of_lt_mul hsp h1
        refine sh ?_
        rw [Int.tmod_eq_emod_of_nonneg (by omega)]
        refine wI ?_
        refine sh ?_
        rw [Int.tdiv_eq_ediv_of_nonneg (by omega)]
        refine wI ?_
        refine sh ?_
        refine ICall.pure h.n104.o104.hb (at_c h.n104 t ok _ _ (by simp only [inI]; omega) (by simp only [inI]; omega)) rfl ?_
        refine sh ?_
        refine ICall.pure h.n104.o104.hb (at_c h.n104 t ok _ _ (by simp only [inI]; omega) (by simp only [inI]; omega)) rfl ?_
        refine sh ?_
        refine ICall.pure h.n104.o104.hb (at_c h.n104 t ok _ _ (by simp only [inI]; omega) (by simp only [inI]; omega)) rfl ?_
        refine sh ?_
        refine ICall.pure h.n104.o104.hb (at_c h.n104 t ok _ _ (by simp only [inI]; omega) (by simp only [inI]; omega)) rfl ?_
        have g1 := (T3.good_iff _).1 (ok.at_good (2 * (i % s)) (2 * (i / s)))
        have g2 := (T3.good_iff _).1 (ok.at_good (2 * (i % s) + 1) (2 * (i / s)))
        have g3 := (T3.good_iff _).1 (ok.at_good (2 * (i % s)) (2 * (i / s) + 1))
        have g4 := (T3.good_iff _).1 (ok.at_good (2 * (i % s) + 1) (2 * (i / s) + 1))
        have hn : t.next s i = avg (t.at (2 * (i % s)) (2 * (i / s))) (t.at (2 * (i % s) + 1) (2 * (i / s))) (t.at (2 * (i % s)) (2 * (i / s) + 1)) (t.at (2 * (i % s) + 1) (2 * (i / s) + 1)) := rfl
        generalize t.at (2 * (i % s)) (2 * (i / s)) = a at g1 hn ⊢
        generalize t.at (2 * (i % s) + 1) (2 * (i / s)) = b at g2 hn ⊢
        generalize t.at (2 * (i % s)) (2 * (i / s) + 1) = c at g3 hn ⊢
        generalize t.at (2 * (i % s) + 1) (2 * (i / s) + 1) = d at g4 hn ⊢
        refine sh ?_
        refine ILoop.one 100 ?_
        refine sh ?_
        refine acnd_t (by decide) ?_
        refine sh ?_
        rw [Int.tdiv_eq_ediv_of_nonneg (by omega)]
        refine wI ?_
        refine sh ?_
        refine ILoop.one 100 ?_
        refine sh ?_
        refine acnd_t (by decide) ?_
        refine sh ?_
        rw [Int.tdiv_eq_ediv_of_nonneg (by omega)]
        refine wI ?_
        refine sh ?_
        refine ILoop.one 100 ?_
        refine sh ?_
        refine acnd_t (by decide) ?_
        refine sh ?_
        rw [Int.tdiv_eq_ediv_of_nonneg (by omega)]
        refine wI ?_
        refine sh ?_
        refine ILoop.one 100 ?_
        refine sh ?_
        refine acnd_f (by decide) ?_
        refine sh ?_
        refine nX (i + 1) ?_ ?_ ⟨_, hp, rfl⟩ ?_ ?_
        · omega
        · omega
        · all_goals repeat' (first | exact True.intro | refine And.intro ?_ ?_ | (intro _u; clear _u) | (with_reducible first | refine eM ?_ ?_ | refine eF ?_ ?_ ?_ | refine eN ?_ | refine eL ?_ ?_ ?_ | refine eA ?_ ?_ | refine IWk.mk ⟨_, hp, rfl⟩ ?_ ?_) | refine IWk.mk ⟨_, hp, rfl⟩ ?_ ?_)
          all_goals first | with_reducible rfl | omega | exact Or.inl (by decide) | (simp; done) | rfl | skip
        · all_goals repeat' (first | exact True.intro | refine And.intro ?_ ?_ | (intro _u; clear _u) | (with_reducible first | refine eM ?_ ?_ | refine eF ?_ ?_ ?_ | refine eN ?_ | refine eL ?_ ?_ ?_ | refine eA ?_ ?_ | refine IWk.mk ⟨_, hp, rfl⟩ ?_ ?_) | refine IWk.mk ⟨_, hp, rfl⟩ ?_ ?_)
          all_goals first | with_reducible rfl | omega | exact Or.inl (by decide) | (simp; done) | rfl | skip
          rw [nexts_succ, hh, hn]
          simp [slc3, t3, avg]
      · have e : t.half = ⟨s, nexts t i⟩ := by
          unfold Tex.half
          rw [hh, show (s * s).toNat = i by omega]
        rw [e]
        refine sh ?_
        exact rT
def halfs (t : Tex) : Tex × Int := if tchk t ≠ 0 then (⟨0, []⟩, tchk t) else if t.side = 1 then (⟨0, []⟩, 2) else (t.half, 0)
theorem halfs_c {R : Env} (h : N91 R) (t : Tex) (hl : t.t.length ≤ 1073741824) : R.Pc 91 [.agg t.row] (.tup [.agg (halfs t).1.row, .int .i64 (halfs t).2]) :=
  h.o91.enter 100 rfl fun X bb hfit hp => by
    refine sh ?_
    refine ICall.pure h.n84.o84.hb (tchk_c h.n84 t hl) rfl ?_
    generalize hq : halfs t = q
    refine sh ?_
    refine cS (fun h1 => ?_) (fun h1 => ?_)
    · rw [halfs, if_pos h1] at hq
      subst hq
      refine sh ?_
      exact rT
    · have ok := tchk_ok h1
      rw [halfs, if_neg (by simpa using h1)] at hq
      refine sh ?_
      refine cS (fun h2 => ?_) (fun h2 => ?_)
      · rw [if_pos h2] at hq
        subst hq
        refine sh ?_
        exact rT
      · rw [if_neg h2] at hq
        subst hq
        refine sh ?_
        refine ICall.pure h.n103.o103.hb (half_c h.n103 t ok) rfl ?_
        refine sh ?_
        exact rT
def texs (l : List T3) : List UInt8 := l.flatMap fun x => [u8 x.a, u8 x.b, u8 x.c]
def tencs (t : Tex) : List UInt8 × Int := if tchk t ≠ 0 then ([], tchk t) else (u8 t.side :: texs t.t, 0)
theorem texs_len : ∀ l : List T3, (texs l).length = 3 * l.length
  | [] => rfl
  | x :: r => by
    have := texs_len r
    simp only [texs, List.flatMap_cons, List.length_append, List.length_cons, List.length_nil] at this ⊢
    omega
theorem texs_succ {l : List T3} {k : Nat} {x : T3} (h : l[k]? = some x) : texs (l.take (k + 1)) = texs (l.take k) ++ [u8 x.a, u8 x.b, u8 x.c] := by
  rw [take_succ_get h]; simp [texs]
theorem tencode_c {R : Env} (h : N82 R) (t : Tex) (hl : t.t.length ≤ 1073741824) : R.Pc 82 [.agg t.row] (.tup [.isl 1 (slc8 (tencs t).1), .int .i64 (tencs t).2]) :=
  h.o82.enter 200 rfl fun X bb hfit hp => by
    refine sh ?_
    refine ICall.pure h.n84.o84.hb (tchk_c h.n84 t hl) rfl ?_
    generalize hq : tencs t = q
    refine sh ?_
    refine cS (fun h1 => ?_) (fun h1 => ?_)
    · rw [tencs, if_pos h1] at hq
      subst hq
      refine sh ?_
      exact rT
    · have ok := tchk_ok h1
      rw [tencs, if_neg (by simpa using h1)] at hq
      subst hq
      have hs := tchk_in ok.s
      have htl : t.t.length ≤ 256 := by
        have := ok.l
        rcases hs with h | h | h | h | h <;> rw [h] at this <;> omega
      refine sh ?_
      refine ILoop.inv 200 (fun i : Nat => i ≤ t.t.length) (fun i => ⟨[(5, .osl 1 (u8 t.side :: texs (t.t.take i)).length), (18, .isl 3 (slc3 t.t)), (19, .int .i64 t.t.length), (20, .int .i64 i)], [(1, .arr (R.ty 4) 1 (slc8 (u8 t.side :: texs (t.t.take i))))], 2⟩) (fun i => t.t.length - i) (0) ?_ ⟨⟨_, hp, rfl⟩, ?_, ?_⟩ ?_
      · exact Nat.zero_le _
      · all_goals repeat' (first | exact True.intro | refine And.intro ?_ ?_ | (intro _u; clear _u) | (with_reducible first | refine eM ?_ ?_ | refine eF ?_ ?_ ?_ | refine eN ?_ | refine eL ?_ ?_ ?_ | refine eA ?_ ?_ | refine IWk.mk ⟨_, hp, rfl⟩ ?_ ?_) | refine IWk.mk ⟨_, hp, rfl⟩ ?_ ?_)
        all_goals first | with_reducible rfl | omega | exact Or.inl (by decide) | (simp; done) | rfl | skip
      · all_goals repeat' (first | exact True.intro | refine And.intro ?_ ?_ | (intro _u; clear _u) | (with_reducible first | refine eM ?_ ?_ | refine eF ?_ ?_ ?_ | refine eN ?_ | refine eL ?_ ?_ ?_ | refine eA ?_ ?_ | refine IWk.mk ⟨_, hp, rfl⟩ ?_ ?_) | refine IWk.mk ⟨_, hp, rfl⟩ ?_ ?_)
        all_goals first | with_reducible rfl | omega | exact Or.inl (by decide) | (simp; done) | rfl | skip
        simp [slc8, texs, u8_in (n := t.side) (by omega)]
      · intro i hi
        dsimp only
        refine sh ?_
        refine cS (fun h2 => ?_) (fun h2 => ?_)
        · obtain ⟨y, hy⟩ : ∃ u_, t.t[i]? = some u_ := ⟨_, List.getElem?_eq_getElem (by first | omega | (simp <;> omega))⟩
          refine sh ?_
          refine eget_map hy ?_
          refine sh ?_
          refine iwr_any ?_
          refine sh ?_
          refine iwr_any ?_
          refine sh ?_
          refine iwr_any ?_
          refine sh ?_
          refine nD ?_ (by have := texs_len (t.t.take i); simp only [List.length_take] at this; simp; omega)
          refine sh ?_
          refine nX (i + 1) ?_ ?_ ⟨_, hp, rfl⟩ ?_ ?_
          · omega
          · omega
          · all_goals repeat' (first | exact True.intro | refine And.intro ?_ ?_ | (intro _u; clear _u) | (with_reducible first | refine eM ?_ ?_ | refine eF ?_ ?_ ?_ | refine eN ?_ | refine eL ?_ ?_ ?_ | refine eA ?_ ?_ | refine IWk.mk ⟨_, hp, rfl⟩ ?_ ?_) | refine IWk.mk ⟨_, hp, rfl⟩ ?_ ?_)
            all_goals first | with_reducible rfl | omega | exact Or.inl (by decide) | (simp; done) | rfl | skip
            rw [texs_succ hy]; simp
          · all_goals repeat' (first | exact True.intro | refine And.intro ?_ ?_ | (intro _u; clear _u) | (with_reducible first | refine eM ?_ ?_ | refine eF ?_ ?_ ?_ | refine eN ?_ | refine eL ?_ ?_ ?_ | refine eA ?_ ?_ | refine IWk.mk ⟨_, hp, rfl⟩ ?_ ?_) | refine IWk.mk ⟨_, hp, rfl⟩ ?_ ?_)
            all_goals first | with_reducible rfl | omega | exact Or.inl (by decide) | (simp; done) | rfl | skip
            rw [texs_succ hy]; simp [slc8, wr_u8]
        · rw [List.take_of_length_le (by omega)]
          refine sh ?_
          exact rT
end Go.UM
