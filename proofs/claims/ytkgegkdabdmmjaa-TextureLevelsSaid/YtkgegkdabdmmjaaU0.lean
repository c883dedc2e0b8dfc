/- Of the reckoning machine, and what is proved with it: texts joined by program. -/
import Derived.Test.YtkgegkdabdmmjaaK3
set_option linter.all false

namespace Go.UM
open Go.AM
def c106 : IFn := { np := 2, rs := [.t 4], body :=
 (.seq
  (.ops [⟨some 4, none, .mv (.k (.int .i64 0))⟩])
  (.seq
   (.seq
    (.ops [⟨some 6, none, .mv (.t 0)⟩,
      ⟨some 7, none, .lenS (.t 6)⟩,
      ⟨some 8, none, .mv (.k (.int .i64 0))⟩])
    (.keep [0, 1, 7, 8]
     (.block 0
      (.loop
       (.seq
        (.ops [⟨some 9, none, .bin .lss (.t 8) (.t 7)⟩])
        (.seq
         (.cond (.t 9)
          .skip
          (.exit 0))
         (.keep [0, 1, 7, 8]
          (.seq
           (.block 1
            (.seq
             (.ops [⟨some 10, none, .mv (.t 8)⟩,
               ⟨some 5, none, .mv (.t 10)⟩])
             (.seq
              (.ops [⟨some 11, none, .mv (.t 1)⟩,
                ⟨some 12, none, .mv (.t 0)⟩,
                ⟨some 13, none, .mv (.t 5)⟩,
                ⟨some 14, none, .idxS 1 (.t 12) (.t 13)⟩,
                ⟨some 15, none, .load false 1 (.t 14)⟩,
                ⟨some 16, none, .bin .eql (.t 11) (.t 15)⟩])
              (.keep [0, 1, 5, 7, 8, 16]
               (.cond (.t 16)
                (.seq
                 (.ops [⟨some 17, none, .mv (.t 5)⟩,
                   ⟨some 4, none, .mv (.t 17)⟩])
                 .ret)
                .skip)))))
           (.keep [0, 1, 7, 8]
            (.ops [⟨some 18, none, .bin .add (.t 8) (.k (.int .i64 1))⟩,
              ⟨some 8, none, .mv (.t 18)⟩]))))))))))
   (.keep []
    (.seq
     (.ops [⟨some 4, none, .mv (.k (.int .i64 (-1)))⟩])
     .ret)))) }
structure N106 (R : Env) : Prop where
  o106 : R.Fn 106 c106
def c100 : IFn := { np := 2, rs := [.t 4], body :=
 (.seq
  (.ops [⟨some 4, none, .mv (.k (.bool false))⟩])
  (.seq
   (.ops [⟨some 5, none, .mv (.t 0)⟩,
     ⟨some 6, none, .mv (.t 1)⟩,
     ⟨some 7, none, .call 106 [.t 5, .t 6]⟩,
     ⟨some 8, none, .bin .geq (.t 7) (.k (.int .i64 0))⟩,
     ⟨some 4, none, .mv (.t 8)⟩])
   (.keep [4]
    .ret))) }
structure N100 (R : Env) : Prop where
  o100 : R.Fn 100 c100
  n106 : N106 R
def c101 : IFn := { np := 1, rs := [.t 2], body :=
 (.seq
  (.ops [⟨some 2, none, .mv (.k (.nils))⟩])
  (.seq
   (.seq
    (.ops [⟨some 3, none, .mv (.t 0)⟩,
      ⟨some 4, none, .isnS false (.t 3)⟩])
    (.cond (.t 4)
     (.seq
      (.ops [⟨some 2, none, .mv (.k (.nils))⟩])
      .ret)
     .skip))
   (.keep [0]
    (.seq
     (.ops [⟨some 5, none, .bslice 13 3 0 [.int .i64 0, .int .i64 0, .int .i64 0] []⟩,
       ⟨some 6, none, .mv (.t 0)⟩,
       ⟨some 7, none, .app 13 3 (.t 5) (.t 6)⟩,
       ⟨some 2, none, .mv (.t 7)⟩])
     .ret)))) }
structure N101 (R : Env) : Prop where
  o101 : R.Fn 101 c101
end Go.UM

namespace Go.UM
open Go.AM
end Go.UM

namespace Go.UM
open Go.AM
def c84 : IFn := { np := 1, rs := [.t 2], body :=
 (.seq
  (.ops [⟨some 1, none, .box 12 (.t 0)⟩,
    ⟨some 2, none, .mv (.k (.int .i64 0))⟩])
  (.seq
   (.seq
    (.ops [⟨some 5, none, .bslice 10 1 5 [.int .i64 0] [(0, .k (.int .i64 1)), (1, .k (.int .i64 2)), (2, .k (.int .i64 4)), (3, .k (.int .i64 8)), (4, .k (.int .i64 16))]⟩,
      ⟨some 6, none, .fldA 0 (.t 1)⟩,
      ⟨some 7, none, .load false 1 (.t 6)⟩,
      ⟨some 8, none, .call 100 [.t 5, .t 7]⟩,
      ⟨some 9, none, .un .not (.t 8)⟩,
      ⟨some 10, none, .mv (.t 9)⟩,
      ⟨some 11, some (10, false), .fldA 1 (.t 1)⟩,
      ⟨some 12, some (10, false), .load false 1 (.t 11)⟩,
      ⟨some 13, some (10, false), .lenS (.t 12)⟩,
      ⟨some 14, some (10, false), .fldA 0 (.t 1)⟩,
      ⟨some 15, some (10, false), .load false 1 (.t 14)⟩,
      ⟨some 16, some (10, false), .fldA 0 (.t 1)⟩,
      ⟨some 17, some (10, false), .load false 1 (.t 16)⟩,
      ⟨some 18, some (10, false), .bin .mul (.t 15) (.t 17)⟩,
      ⟨some 19, some (10, false), .bin .neq (.t 13) (.t 18)⟩,
      ⟨some 20, none, .pick (.t 10) (.k (.bool true)) (.t 19)⟩])
    (.keep [1, 20]
     (.cond (.t 20)
      (.seq
       (.ops [⟨some 2, none, .mv (.k (.int .i64 5))⟩])
       .ret)
      .skip)))
   (.keep [1]
    (.seq
     (.seq
      (.ops [⟨some 21, none, .fldA 1 (.t 1)⟩,
        ⟨some 22, none, .load false 1 (.t 21)⟩,
        ⟨some 23, none, .lenS (.t 22)⟩,
        ⟨some 24, none, .mv (.k (.int .i64 0))⟩])
      (.keep [22, 23, 24]
       (.block 0
        (.loop
         (.seq
          (.ops [⟨some 25, none, .bin .lss (.t 24) (.t 23)⟩])
          (.seq
           (.cond (.t 25)
            .skip
            (.exit 0))
           (.keep [22, 23, 24]
            (.seq
             (.block 1
              (.seq
               (.ops [⟨some 26, none, .idxS 3 (.t 22) (.t 24)⟩,
                 ⟨some 27, none, .load true 3 (.t 26)⟩,
                 ⟨some 4, none, .alloc 13 [.int .i64 0, .int .i64 0, .int .i64 0]⟩,
                 ⟨none, none, .store 3 (.t 4) (.t 27)⟩])
               (.seq
                (.ops [⟨some 28, none, .idxA 3 1 (.t 4) (.k (.int .i64 0))⟩,
                  ⟨some 29, none, .load false 1 (.t 28)⟩,
                  ⟨some 30, none, .idxA 3 1 (.t 4) (.k (.int .i64 1))⟩,
                  ⟨some 31, none, .load false 1 (.t 30)⟩,
                  ⟨some 32, none, .idxA 3 1 (.t 4) (.k (.int .i64 2))⟩,
                  ⟨some 33, none, .load false 1 (.t 32)⟩,
                  ⟨some 34, none, .mm false [.t 29, .t 31, .t 33]⟩,
                  ⟨some 35, none, .bin .lss (.t 34) (.k (.int .i64 0))⟩,
                  ⟨some 36, none, .mv (.t 35)⟩,
                  ⟨some 37, some (36, false), .idxA 3 1 (.t 4) (.k (.int .i64 0))⟩,
                  ⟨some 38, some (36, false), .load false 1 (.t 37)⟩,
                  ⟨some 39, some (36, false), .idxA 3 1 (.t 4) (.k (.int .i64 1))⟩,
                  ⟨some 40, some (36, false), .load false 1 (.t 39)⟩,
                  ⟨some 41, some (36, false), .idxA 3 1 (.t 4) (.k (.int .i64 2))⟩,
                  ⟨some 42, some (36, false), .load false 1 (.t 41)⟩,
                  ⟨some 43, some (36, false), .mm true [.t 38, .t 40, .t 42]⟩,
                  ⟨some 44, some (36, false), .bin .gtr (.t 43) (.k (.int .i64 255))⟩,
                  ⟨some 45, none, .pick (.t 36) (.k (.bool true)) (.t 44)⟩])
                (.keep [22, 23, 24, 45]
                 (.cond (.t 45)
                  (.seq
                   (.ops [⟨some 2, none, .mv (.k (.int .i64 5))⟩])
                   .ret)
                  .skip)))))
             (.keep [22, 23, 24]
              (.ops [⟨some 46, none, .bin .add (.t 24) (.k (.int .i64 1))⟩,
                ⟨some 24, none, .mv (.t 46)⟩]))))))))))
     (.keep []
      (.seq
       (.ops [⟨some 2, none, .mv (.k (.int .i64 0))⟩])
       .ret)))))) }
structure N84 (R : Env) : Prop where
  o84 : R.Fn 84 c84
  n100 : N100 R
def c104 : IFn := { np := 3, rs := [.cell 6 true 3], body :=
 (.seq
  (.ops [⟨some 3, none, .box 12 (.t 0)⟩,
    ⟨some 6, none, .alloc 13 [.int .i64 0, .int .i64 0, .int .i64 0]⟩])
  (.seq
   (.ops [⟨some 7, none, .fldA 1 (.t 3)⟩,
     ⟨some 8, none, .load false 1 (.t 7)⟩,
     ⟨some 9, none, .mv (.t 2)⟩,
     ⟨some 10, none, .fldA 0 (.t 3)⟩,
     ⟨some 11, none, .load false 1 (.t 10)⟩,
     ⟨some 12, none, .bin .sub (.t 11) (.k (.int .i64 1))⟩,
     ⟨some 13, none, .bin .and (.t 9) (.t 12)⟩,
     ⟨some 14, none, .fldA 0 (.t 3)⟩,
     ⟨some 15, none, .load false 1 (.t 14)⟩,
     ⟨some 16, none, .bin .mul (.t 13) (.t 15)⟩,
     ⟨some 17, none, .mv (.t 1)⟩,
     ⟨some 18, none, .fldA 0 (.t 3)⟩,
     ⟨some 19, none, .load false 1 (.t 18)⟩,
     ⟨some 20, none, .bin .sub (.t 19) (.k (.int .i64 1))⟩,
     ⟨some 21, none, .bin .and (.t 17) (.t 20)⟩,
     ⟨some 22, none, .bin .add (.t 16) (.t 21)⟩,
     ⟨some 23, none, .idxS 3 (.t 8) (.t 22)⟩,
     ⟨some 24, none, .load true 3 (.t 23)⟩,
     ⟨none, none, .store 3 (.t 6) (.t 24)⟩])
   (.keep [6]
    .ret))) }
structure N104 (R : Env) : Prop where
  o104 : R.Fn 104 c104
def c103 : IFn := { np := 1, rs := [.cell 2 true 2], body :=
 (.seq
  (.ops [⟨some 1, none, .box 12 (.t 0)⟩,
    ⟨some 2, none, .alloc 12 [.int .i64 0, .nils]⟩])
  (.seq
   (.ops [⟨some 13, none, .fldA 0 (.t 1)⟩,
     ⟨some 14, none, .load false 1 (.t 13)⟩,
     ⟨some 15, none, .bin .quo (.t 14) (.k (.int .i64 2))⟩,
     ⟨some 16, none, .build [.int .i64 0, .nils] [(0, 1, .t 15)]⟩,
     ⟨some 3, none, .alloc 12 [.int .i64 0, .nils]⟩,
     ⟨none, none, .store 2 (.t 3) (.t 16)⟩])
   (.keep [1, 2, 3]
    (.seq
     (.seq
      (.ops [⟨some 17, none, .fldA 0 (.t 3)⟩,
        ⟨some 18, none, .load false 1 (.t 17)⟩,
        ⟨some 19, none, .fldA 0 (.t 3)⟩,
        ⟨some 20, none, .load false 1 (.t 19)⟩,
        ⟨some 21, none, .bin .mul (.t 18) (.t 20)⟩,
        ⟨some 22, none, .mv (.k (.int .i64 0))⟩])
      (.keep [1, 2, 3, 21, 22]
       (.block 0
        (.loop
         (.seq
          (.ops [⟨some 23, none, .bin .lss (.t 22) (.t 21)⟩])
          (.seq
           (.cond (.t 23)
            .skip
            (.exit 0))
           (.keep [1, 2, 3, 21, 22]
            (.seq
             (.block 1
              (.seq
               (.ops [⟨some 24, none, .mv (.t 22)⟩,
                 ⟨some 4, none, .mv (.t 24)⟩])
               (.seq
                (.draw [0, 0, 2, 7, 15, 0, 0, 64, 224, 480, 31, 2047] [[4], [3], [26], [25, 27], [28], [4], [3], [31], [30, 32], [33], [29], [34]] [⟨some 25, none, .mv (.t 4)⟩,
                  ⟨some 26, none, .fldA 0 (.t 3)⟩,
                  ⟨some 27, none, .load false 1 (.t 26)⟩,
                  ⟨some 28, none, .bin .rem (.t 25) (.t 27)⟩,
                  ⟨some 29, none, .bin .mul (.k (.int .i64 2)) (.t 28)⟩,
                  ⟨some 30, none, .mv (.t 4)⟩,
                  ⟨some 31, none, .fldA 0 (.t 3)⟩,
                  ⟨some 32, none, .load false 1 (.t 31)⟩,
                  ⟨some 33, none, .bin .quo (.t 30) (.t 32)⟩,
                  ⟨some 34, none, .bin .mul (.k (.int .i64 2)) (.t 33)⟩,
                  ⟨some 5, none, .mv (.t 29)⟩,
                  ⟨some 6, none, .mv (.t 34)⟩])
                (.keep [1, 2, 3, 5, 6, 21, 22]
                 (.seq
                  (.draw [0, 0, 0, 7, 0, 0, 32, 0, 255, 0, 0, 0, 2048, 8191, 0, 0, 32768, 0, 131072, 524287, 0, 0, 0, 0, 16777215, 33554431, 67108863, 134217727] [[1], [5], [6], [35, 36, 37], [1], [5], [40], [6], [39, 41, 42], [1], [5], [6], [46], [44, 45, 47], [1], [5], [50], [6], [52], [49, 51, 53], [], [], [], [], [7, 38], [8, 43], [9, 48], [10, 54]] [⟨some 35, none, .load true 2 (.t 1)⟩,
                    ⟨some 36, none, .mv (.t 5)⟩,
                    ⟨some 37, none, .mv (.t 6)⟩,
                    ⟨some 38, none, .call 104 [.t 35, .t 36, .t 37]⟩,
                    ⟨some 39, none, .load true 2 (.t 1)⟩,
                    ⟨some 40, none, .mv (.t 5)⟩,
                    ⟨some 41, none, .bin .add (.t 40) (.k (.int .i64 1))⟩,
                    ⟨some 42, none, .mv (.t 6)⟩,
                    ⟨some 43, none, .call 104 [.t 39, .t 41, .t 42]⟩,
                    ⟨some 44, none, .load true 2 (.t 1)⟩,
                    ⟨some 45, none, .mv (.t 5)⟩,
                    ⟨some 46, none, .mv (.t 6)⟩,
                    ⟨some 47, none, .bin .add (.t 46) (.k (.int .i64 1))⟩,
                    ⟨some 48, none, .call 104 [.t 44, .t 45, .t 47]⟩,
                    ⟨some 49, none, .load true 2 (.t 1)⟩,
                    ⟨some 50, none, .mv (.t 5)⟩,
                    ⟨some 51, none, .bin .add (.t 50) (.k (.int .i64 1))⟩,
                    ⟨some 52, none, .mv (.t 6)⟩,
                    ⟨some 53, none, .bin .add (.t 52) (.k (.int .i64 1))⟩,
                    ⟨some 54, none, .call 104 [.t 49, .t 51, .t 53]⟩,
                    ⟨some 7, none, .alloc 13 [.int .i64 0, .int .i64 0, .int .i64 0]⟩,
                    ⟨some 8, none, .alloc 13 [.int .i64 0, .int .i64 0, .int .i64 0]⟩,
                    ⟨some 9, none, .alloc 13 [.int .i64 0, .int .i64 0, .int .i64 0]⟩,
                    ⟨some 10, none, .alloc 13 [.int .i64 0, .int .i64 0, .int .i64 0]⟩,
                    ⟨none, none, .store 3 (.t 7) (.t 38)⟩,
                    ⟨none, none, .store 3 (.t 8) (.t 43)⟩,
                    ⟨none, none, .store 3 (.t 9) (.t 48)⟩,
                    ⟨none, none, .store 3 (.t 10) (.t 54)⟩])
                  (.keep [1, 2, 3, 7, 8, 9, 10, 21, 22]
                   (.seq
                    (.ops [⟨some 11, none, .alloc 13 [.int .i64 0, .int .i64 0, .int .i64 0]⟩])
                    (.seq
                     (.seq
                      (.ops [⟨some 55, none, .mv (.k (.int .i64 0))⟩])
                      (.keep [1, 2, 3, 7, 8, 9, 10, 11, 21, 22, 55]
                       (.block 2
                        (.loop
                         (.seq
                          (.ops [⟨some 56, none, .bin .lss (.t 55) (.k (.int .i64 3))⟩])
                          (.seq
                           (.cond (.t 56)
                            .skip
                            (.exit 2))
                           (.keep [1, 2, 3, 7, 8, 9, 10, 11, 21, 22, 55]
                            (.seq
                             (.block 3
                              (.seq
                               (.ops [⟨some 57, none, .mv (.t 55)⟩,
                                 ⟨some 12, none, .mv (.t 57)⟩])
                               (.draw [0, 0, 2, 6, 0, 16, 48, 126, 0, 256, 768, 2046, 0, 4096, 12288, 32766, 65534, 131070, 262143, 524287] [[12], [12], [7, 59], [60], [12], [8, 62], [63], [61, 64], [12], [9, 66], [67], [65, 68], [12], [10, 70], [71], [69, 72], [73], [74], [11, 58], [76, 75]] [⟨some 58, none, .mv (.t 12)⟩,
                                 ⟨some 59, none, .mv (.t 12)⟩,
                                 ⟨some 60, none, .idxA 3 1 (.t 7) (.t 59)⟩,
                                 ⟨some 61, none, .load false 1 (.t 60)⟩,
                                 ⟨some 62, none, .mv (.t 12)⟩,
                                 ⟨some 63, none, .idxA 3 1 (.t 8) (.t 62)⟩,
                                 ⟨some 64, none, .load false 1 (.t 63)⟩,
                                 ⟨some 65, none, .bin .add (.t 61) (.t 64)⟩,
                                 ⟨some 66, none, .mv (.t 12)⟩,
                                 ⟨some 67, none, .idxA 3 1 (.t 9) (.t 66)⟩,
                                 ⟨some 68, none, .load false 1 (.t 67)⟩,
                                 ⟨some 69, none, .bin .add (.t 65) (.t 68)⟩,
                                 ⟨some 70, none, .mv (.t 12)⟩,
                                 ⟨some 71, none, .idxA 3 1 (.t 10) (.t 70)⟩,
                                 ⟨some 72, none, .load false 1 (.t 71)⟩,
                                 ⟨some 73, none, .bin .add (.t 69) (.t 72)⟩,
                                 ⟨some 74, none, .bin .add (.t 73) (.k (.int .i64 2))⟩,
                                 ⟨some 75, none, .bin .quo (.t 74) (.k (.int .i64 4))⟩,
                                 ⟨some 76, none, .idxA 3 1 (.t 11) (.t 58)⟩,
                                 ⟨none, none, .store 1 (.t 76) (.t 75)⟩])))
                             (.keep [1, 2, 3, 7, 8, 9, 10, 11, 21, 22, 55]
                              (.ops [⟨some 77, none, .bin .add (.t 55) (.k (.int .i64 1))⟩,
                                ⟨some 55, none, .mv (.t 77)⟩]))))))))))
                     (.keep [1, 2, 3, 11, 21, 22]
                      (.ops [⟨some 78, none, .fldA 1 (.t 3)⟩,
                        ⟨some 79, none, .load false 1 (.t 78)⟩,
                        ⟨some 80, none, .load true 3 (.t 11)⟩,
                        ⟨some 81, none, .bslice 13 3 1 [.int .i64 0, .int .i64 0, .int .i64 0] [(0, .t 80)]⟩,
                        ⟨some 82, none, .app 13 3 (.t 79) (.t 81)⟩,
                        ⟨some 83, none, .fldA 1 (.t 3)⟩,
                        ⟨none, none, .store 1 (.t 83) (.t 82)⟩]))))))))))
             (.keep [1, 2, 3, 21, 22]
              (.ops [⟨some 84, none, .bin .add (.t 22) (.k (.int .i64 1))⟩,
                ⟨some 22, none, .mv (.t 84)⟩]))))))))))
     (.keep [2, 3]
      (.seq
       (.ops [⟨some 85, none, .load true 2 (.t 3)⟩,
         ⟨none, none, .store 2 (.t 2) (.t 85)⟩])
       .ret)))))) }
structure N103 (R : Env) : Prop where
  o103 : R.Fn 103 c103
  n104 : N104 R
def c91 : IFn := { np := 1, rs := [.cell 2 true 2, .t 3], body :=
 (.seq
  (.ops [⟨some 1, none, .box 12 (.t 0)⟩,
    ⟨some 2, none, .alloc 12 [.int .i64 0, .nils]⟩,
    ⟨some 3, none, .mv (.k (.int .i64 0))⟩])
  (.seq
   (.seq
    (.ops [⟨some 5, none, .load true 2 (.t 1)⟩,
      ⟨some 6, none, .call 84 [.t 5]⟩,
      ⟨some 4, none, .mv (.t 6)⟩])
    (.seq
     (.ops [⟨some 7, none, .mv (.t 4)⟩,
       ⟨some 8, none, .bin .neq (.t 7) (.k (.int .i64 0))⟩])
     (.cond (.t 8)
      (.seq
       (.ops [⟨some 9, none, .build [.int .i64 0, .nils] []⟩,
         ⟨some 10, none, .mv (.t 4)⟩,
         ⟨none, none, .store 2 (.t 2) (.t 9)⟩,
         ⟨some 3, none, .mv (.t 10)⟩])
       .ret)
      .skip)))
   (.keep [1, 2]
    (.seq
     (.seq
      (.ops [⟨some 11, none, .fldA 0 (.t 1)⟩,
        ⟨some 12, none, .load false 1 (.t 11)⟩,
        ⟨some 13, none, .bin .eql (.t 12) (.k (.int .i64 1))⟩])
      (.cond (.t 13)
       (.seq
        (.ops [⟨some 14, none, .build [.int .i64 0, .nils] []⟩,
          ⟨none, none, .store 2 (.t 2) (.t 14)⟩,
          ⟨some 3, none, .mv (.k (.int .i64 2))⟩])
        .ret)
       .skip))
     (.keep [1, 2]
      (.seq
       (.ops [⟨some 15, none, .load true 2 (.t 1)⟩,
         ⟨some 16, none, .call 103 [.t 15]⟩,
         ⟨none, none, .store 2 (.t 2) (.t 16)⟩,
         ⟨some 3, none, .mv (.k (.int .i64 0))⟩])
       .ret)))))) }
structure N91 (R : Env) : Prop where
  o91 : R.Fn 91 c91
  n84 : N84 R
  n103 : N103 R
def c107 : IFn := { np := 2, rs := [], body :=
 (.block 0
  (.loop
   (.seq
    (.seq
     (.ops [⟨some 3, none, .mv (.t 0)⟩,
       ⟨some 4, none, .load true 2 (.t 1)⟩,
       ⟨some 5, none, .callv (.t 3) [.t 4]⟩,
       ⟨some 6, none, .mv (.t 5)⟩,
       ⟨some 7, some (6, true), .fldA 0 (.t 1)⟩,
       ⟨some 8, some (6, true), .load false 1 (.t 7)⟩,
       ⟨some 9, some (6, true), .bin .gtr (.t 8) (.k (.int .i64 1))⟩,
       ⟨some 10, none, .pick (.t 6) (.t 9) (.k (.bool false))⟩])
     (.keep [0, 1, 10]
      (.cond (.t 10)
       .skip
       (.exit 0))))
    (.keep [0, 1]
     (.block 1
      (.ops [⟨some 11, none, .load true 2 (.t 1)⟩,
        ⟨some 12, none, .call 103 [.t 11]⟩,
        ⟨none, none, .store 2 (.t 1) (.t 12)⟩])))))) }
structure N107 (R : Env) : Prop where
  o107 : R.Fn 107 c107
  n103 : N103 R
def c102 : IFn := { np := 1, rs := [.t 2], body :=
 (.seq
  (.ops [⟨some 1, none, .box 12 (.t 0)⟩,
    ⟨some 2, none, .mv (.k (.nilf))⟩])
  (.seq
   (.ops [⟨some 3, none, .mkf 107 [.t 1]⟩,
     ⟨some 2, none, .mv (.t 3)⟩])
   .ret)) }
structure N102 (R : Env) : Prop where
  o102 : R.Fn 102 c102
  n107 : N107 R
def c88lp : ILp := { ps := [19], ss := [5], asg :=
 (.ops [⟨some 6, none, .alloc 12 [.int .i64 0, .nils]⟩,
   ⟨none, none, .store 2 (.t 6) (.t 19)⟩]), body :=
 (.block 1
  (.ops [⟨some 20, none, .load false 1 (.t 5)⟩,
    ⟨some 21, none, .load true 2 (.t 6)⟩,
    ⟨some 22, none, .bslice 12 2 1 [.int .i64 0, .nils] [(0, .t 21)]⟩,
    ⟨some 23, none, .app 12 2 (.t 20) (.t 22)⟩,
    ⟨none, none, .store 1 (.t 5) (.t 23)⟩])) }
def c88 : IFn := { np := 1, rs := [.t 2, .t 3], body :=
 (.seq
  (.ops [⟨some 1, none, .box 12 (.t 0)⟩,
    ⟨some 2, none, .mv (.k (.nils))⟩,
    ⟨some 3, none, .mv (.k (.int .i64 0))⟩])
  (.seq
   (.seq
    (.ops [⟨some 7, none, .load true 2 (.t 1)⟩,
      ⟨some 8, none, .call 84 [.t 7]⟩,
      ⟨some 4, none, .mv (.t 8)⟩])
    (.seq
     (.ops [⟨some 9, none, .mv (.t 4)⟩,
       ⟨some 10, none, .bin .neq (.t 9) (.k (.int .i64 0))⟩])
     (.cond (.t 10)
      (.seq
       (.ops [⟨some 11, none, .mv (.t 4)⟩,
         ⟨some 2, none, .mv (.k (.nils))⟩,
         ⟨some 3, none, .mv (.t 11)⟩])
       .ret)
      .skip)))
   (.keep [1]
    (.seq
     (.ops [⟨some 5, none, .alloc 14 [.nils]⟩])
     (.seq
      (.seq
       (.draw [0, 1, 0, 4, 12, 31, 63] [[1], [12], [1], [14], [15], [13, 16], [17]] [⟨some 12, none, .fldA 0 (.t 1)⟩,
         ⟨some 13, none, .load false 1 (.t 12)⟩,
         ⟨some 14, none, .fldA 1 (.t 1)⟩,
         ⟨some 15, none, .load false 1 (.t 14)⟩,
         ⟨some 16, none, .call 101 [.t 15]⟩,
         ⟨some 17, none, .build [.int .i64 0, .nils] [(0, 1, .t 13), (1, 1, .t 16)]⟩,
         ⟨some 18, none, .call 102 [.t 17]⟩])
       (.keep [5, 18]
        (.block 0
         (.rangef (.t 18) c88lp.ps c88lp.asg c88lp.body))))
      (.keep [5]
       (.seq
        (.ops [⟨some 24, none, .load false 1 (.t 5)⟩,
          ⟨some 2, none, .mv (.t 24)⟩,
          ⟨some 3, none, .mv (.k (.int .i64 0))⟩])
        .ret))))))) }
structure N88 (R : Env) : Prop where
  o88 : R.Fn 88 c88
  n84 : N84 R
  n101 : N101 R
  n102 : N102 R
def c94 : IFn := { np := 3, rs := [.cell 6 true 3, .t 7], body :=
 (.seq
  (.ops [⟨some 3, none, .box 12 (.t 0)⟩,
    ⟨some 6, none, .alloc 13 [.int .i64 0, .int .i64 0, .int .i64 0]⟩,
    ⟨some 7, none, .mv (.k (.int .i64 0))⟩])
  (.seq
   (.seq
    (.ops [⟨some 9, none, .load true 2 (.t 3)⟩,
      ⟨some 10, none, .call 84 [.t 9]⟩,
      ⟨some 8, none, .mv (.t 10)⟩])
    (.seq
     (.ops [⟨some 11, none, .mv (.t 8)⟩,
       ⟨some 12, none, .bin .neq (.t 11) (.k (.int .i64 0))⟩])
     (.cond (.t 12)
      (.seq
       (.ops [⟨some 13, none, .build [.int .i64 0, .int .i64 0, .int .i64 0] []⟩,
         ⟨some 14, none, .mv (.t 8)⟩,
         ⟨none, none, .store 3 (.t 6) (.t 13)⟩,
         ⟨some 7, none, .mv (.t 14)⟩])
       .ret)
      .skip)))
   (.keep [1, 2, 3, 6]
    (.seq
     (.ops [⟨some 15, none, .load true 2 (.t 3)⟩,
       ⟨some 16, none, .mv (.t 1)⟩,
       ⟨some 17, none, .mv (.t 2)⟩,
       ⟨some 18, none, .call 104 [.t 15, .t 16, .t 17]⟩,
       ⟨none, none, .store 3 (.t 6) (.t 18)⟩,
       ⟨some 7, none, .mv (.k (.int .i64 0))⟩])
     (.keep [6, 7]
      .ret))))) }
structure N94 (R : Env) : Prop where
  o94 : R.Fn 94 c94
  n84 : N84 R
  n104 : N104 R
end Go.UM

namespace Go.UM
open Go.AM
end Go.UM

namespace Go.UM
open Go.AM
def c85 : IFn := { np := 1, rs := [.t 2], body :=
 (.seq
  (.ops [⟨some 1, none, .box 12 (.t 0)⟩,
    ⟨some 2, none, .mv (.k (.int .i64 0))⟩])
  (.seq
   (.seq
    (.ops [⟨some 5, none, .fldA 0 (.t 1)⟩,
      ⟨some 6, none, .load false 1 (.t 5)⟩,
      ⟨some 7, none, .bin .neq (.t 6) (.k (.int .i64 1))⟩,
      ⟨some 8, none, .mv (.t 7)⟩,
      ⟨some 9, some (8, true), .fldA 0 (.t 1)⟩,
      ⟨some 10, some (8, true), .load false 1 (.t 9)⟩,
      ⟨some 11, some (8, true), .bin .neq (.t 10) (.k (.int .i64 2))⟩,
      ⟨some 12, none, .pick (.t 8) (.t 11) (.k (.bool false))⟩,
      ⟨some 13, none, .mv (.t 12)⟩,
      ⟨some 14, some (13, true), .fldA 0 (.t 1)⟩,
      ⟨some 15, some (13, true), .load false 1 (.t 14)⟩,
      ⟨some 16, some (13, true), .bin .neq (.t 15) (.k (.int .i64 4))⟩,
      ⟨some 17, none, .pick (.t 13) (.t 16) (.k (.bool false))⟩,
      ⟨some 18, none, .mv (.t 17)⟩,
      ⟨some 19, some (18, true), .fldA 0 (.t 1)⟩,
      ⟨some 20, some (18, true), .load false 1 (.t 19)⟩,
      ⟨some 21, some (18, true), .bin .neq (.t 20) (.k (.int .i64 8))⟩,
      ⟨some 22, none, .pick (.t 18) (.t 21) (.k (.bool false))⟩,
      ⟨some 23, none, .mv (.t 22)⟩,
      ⟨some 24, some (23, true), .fldA 0 (.t 1)⟩,
      ⟨some 25, some (23, true), .load false 1 (.t 24)⟩,
      ⟨some 26, some (23, true), .bin .neq (.t 25) (.k (.int .i64 16))⟩,
      ⟨some 27, none, .pick (.t 23) (.t 26) (.k (.bool false))⟩,
      ⟨some 28, none, .mv (.t 27)⟩,
      ⟨some 29, some (28, false), .fldA 1 (.t 1)⟩,
      ⟨some 30, some (28, false), .load false 1 (.t 29)⟩,
      ⟨some 31, some (28, false), .lenS (.t 30)⟩,
      ⟨some 32, some (28, false), .fldA 0 (.t 1)⟩,
      ⟨some 33, some (28, false), .load false 1 (.t 32)⟩,
      ⟨some 34, some (28, false), .fldA 0 (.t 1)⟩,
      ⟨some 35, some (28, false), .load false 1 (.t 34)⟩,
      ⟨some 36, some (28, false), .bin .mul (.t 33) (.t 35)⟩,
      ⟨some 37, some (28, false), .bin .neq (.t 31) (.t 36)⟩,
      ⟨some 38, none, .pick (.t 28) (.k (.bool true)) (.t 37)⟩])
    (.keep [1, 38]
     (.cond (.t 38)
      (.seq
       (.ops [⟨some 2, none, .mv (.k (.int .i64 5))⟩])
       .ret)
      .skip)))
   (.keep [1]
    (.seq
     (.seq
      (.ops [⟨some 3, none, .mv (.k (.int .i64 0))⟩])
      (.keep [1, 3]
       (.block 0
        (.loop
         (.seq
          (.seq
           (.ops [⟨some 39, none, .mv (.t 3)⟩,
             ⟨some 40, none, .fldA 1 (.t 1)⟩,
             ⟨some 41, none, .load false 1 (.t 40)⟩,
             ⟨some 42, none, .lenS (.t 41)⟩,
             ⟨some 43, none, .bin .lss (.t 39) (.t 42)⟩])
           (.keep [1, 3, 43]
            (.cond (.t 43)
             .skip
             (.exit 0))))
          (.keep [1, 3]
           (.seq
            (.block 1
             (.seq
              (.ops [⟨some 4, none, .mv (.k (.int .i64 0))⟩])
              (.keep [1, 3, 4]
               (.block 2
                (.loop
                 (.seq
                  (.seq
                   (.ops [⟨some 46, none, .mv (.t 4)⟩,
                     ⟨some 47, none, .bin .lss (.t 46) (.k (.int .i64 3))⟩])
                   (.cond (.t 47)
                    .skip
                    (.exit 2)))
                  (.keep [1, 3, 4]
                   (.seq
                    (.block 3
                     (.seq
                      (.ops [⟨some 50, none, .fldA 1 (.t 1)⟩,
                        ⟨some 51, none, .load false 1 (.t 50)⟩,
                        ⟨some 52, none, .mv (.t 3)⟩,
                        ⟨some 53, none, .mv (.t 4)⟩,
                        ⟨some 54, none, .idxS 3 (.t 51) (.t 52)⟩,
                        ⟨some 55, none, .idxA 3 1 (.t 54) (.t 53)⟩,
                        ⟨some 56, none, .load false 1 (.t 55)⟩,
                        ⟨some 57, none, .bin .lss (.t 56) (.k (.int .i64 0))⟩,
                        ⟨some 58, none, .mv (.t 57)⟩,
                        ⟨some 59, some (58, false), .fldA 1 (.t 1)⟩,
                        ⟨some 60, some (58, false), .load false 1 (.t 59)⟩,
                        ⟨some 61, some (58, false), .mv (.t 3)⟩,
                        ⟨some 62, some (58, false), .mv (.t 4)⟩,
                        ⟨some 63, some (58, false), .idxS 3 (.t 60) (.t 61)⟩,
                        ⟨some 64, some (58, false), .idxA 3 1 (.t 63) (.t 62)⟩,
                        ⟨some 65, some (58, false), .load false 1 (.t 64)⟩,
                        ⟨some 66, some (58, false), .bin .gtr (.t 65) (.k (.int .i64 255))⟩,
                        ⟨some 67, none, .pick (.t 58) (.k (.bool true)) (.t 66)⟩])
                      (.keep [1, 3, 4, 67]
                       (.cond (.t 67)
                        (.seq
                         (.ops [⟨some 2, none, .mv (.k (.int .i64 5))⟩])
                         .ret)
                        .skip))))
                    (.keep [1, 3, 4]
                     (.ops [⟨some 48, none, .mv (.t 4)⟩,
                       ⟨some 49, none, .bin .add (.t 48) (.k (.int .i64 1))⟩,
                       ⟨some 4, none, .mv (.t 49)⟩]))))))))))
            (.keep [1, 3]
             (.ops [⟨some 44, none, .mv (.t 3)⟩,
               ⟨some 45, none, .bin .add (.t 44) (.k (.int .i64 1))⟩,
               ⟨some 3, none, .mv (.t 45)⟩])))))))))
     (.keep []
      (.seq
       (.ops [⟨some 2, none, .mv (.k (.int .i64 0))⟩])
       .ret)))))) }
structure N85 (R : Env) : Prop where
  o85 : R.Fn 85 c85
def c89 : IFn := { np := 2, rs := [.t 4], body :=
 (.seq
  (.ops [⟨some 2, none, .box 12 (.t 0)⟩,
    ⟨some 3, none, .box 12 (.t 1)⟩,
    ⟨some 4, none, .mv (.k (.bool false))⟩])
  (.seq
   (.seq
    (.ops [⟨some 6, none, .fldA 0 (.t 2)⟩,
      ⟨some 7, none, .load false 1 (.t 6)⟩,
      ⟨some 8, none, .fldA 0 (.t 3)⟩,
      ⟨some 9, none, .load false 1 (.t 8)⟩,
      ⟨some 10, none, .bin .neq (.t 7) (.t 9)⟩,
      ⟨some 11, none, .mv (.t 10)⟩,
      ⟨some 12, some (11, false), .fldA 1 (.t 2)⟩,
      ⟨some 13, some (11, false), .load false 1 (.t 12)⟩,
      ⟨some 14, some (11, false), .lenS (.t 13)⟩,
      ⟨some 15, some (11, false), .fldA 1 (.t 3)⟩,
      ⟨some 16, some (11, false), .load false 1 (.t 15)⟩,
      ⟨some 17, some (11, false), .lenS (.t 16)⟩,
      ⟨some 18, some (11, false), .bin .neq (.t 14) (.t 17)⟩,
      ⟨some 19, none, .pick (.t 11) (.k (.bool true)) (.t 18)⟩])
    (.keep [2, 3, 19]
     (.cond (.t 19)
      (.seq
       (.ops [⟨some 4, none, .mv (.k (.bool false))⟩])
       .ret)
      .skip)))
   (.keep [2, 3]
    (.seq
     (.seq
      (.ops [⟨some 5, none, .mv (.k (.int .i64 0))⟩])
      (.keep [2, 3, 5]
       (.block 0
        (.loop
         (.seq
          (.seq
           (.ops [⟨some 20, none, .mv (.t 5)⟩,
             ⟨some 21, none, .fldA 1 (.t 2)⟩,
             ⟨some 22, none, .load false 1 (.t 21)⟩,
             ⟨some 23, none, .lenS (.t 22)⟩,
             ⟨some 24, none, .bin .lss (.t 20) (.t 23)⟩])
           (.keep [2, 3, 5, 24]
            (.cond (.t 24)
             .skip
             (.exit 0))))
          (.keep [2, 3, 5]
           (.seq
            (.block 1
             (.seq
              (.draw [0, 1, 0, 7, 15, 0, 32, 0, 224, 480, 1023] [[2], [27], [5], [28, 29], [30], [3], [32], [5], [33, 34], [35], [31, 36]] [⟨some 27, none, .fldA 1 (.t 2)⟩,
                ⟨some 28, none, .load false 1 (.t 27)⟩,
                ⟨some 29, none, .mv (.t 5)⟩,
                ⟨some 30, none, .idxS 3 (.t 28) (.t 29)⟩,
                ⟨some 31, none, .load true 3 (.t 30)⟩,
                ⟨some 32, none, .fldA 1 (.t 3)⟩,
                ⟨some 33, none, .load false 1 (.t 32)⟩,
                ⟨some 34, none, .mv (.t 5)⟩,
                ⟨some 35, none, .idxS 3 (.t 33) (.t 34)⟩,
                ⟨some 36, none, .load true 3 (.t 35)⟩,
                ⟨some 37, none, .eqa true [.i, .i, .i] (.t 31) (.t 36)⟩])
              (.keep [2, 3, 5, 37]
               (.cond (.t 37)
                (.seq
                 (.ops [⟨some 4, none, .mv (.k (.bool false))⟩])
                 .ret)
                .skip))))
            (.keep [2, 3, 5]
             (.ops [⟨some 25, none, .mv (.t 5)⟩,
               ⟨some 26, none, .bin .add (.t 25) (.k (.int .i64 1))⟩,
               ⟨some 5, none, .mv (.t 26)⟩])))))))))
     (.keep []
      (.seq
       (.ops [⟨some 4, none, .mv (.k (.bool true))⟩])
       .ret)))))) }
structure N89 (R : Env) : Prop where
  o89 : R.Fn 89 c89
def c105 : IFn := { np := 2, rs := [.t 4], body :=
 (.seq
  (.ops [⟨some 4, none, .mv (.k (.int .i64 0))⟩])
  (.seq
   (.ops [⟨some 5, none, .mv (.t 0)⟩,
     ⟨some 6, none, .mv (.t 1)⟩,
     ⟨some 7, none, .bin .rem (.t 5) (.t 6)⟩,
     ⟨some 0, none, .mv (.t 7)⟩])
   (.seq
    (.seq
     (.ops [⟨some 8, none, .mv (.t 0)⟩,
       ⟨some 9, none, .bin .lss (.t 8) (.k (.int .i64 0))⟩])
     (.cond (.t 9)
      (.ops [⟨some 10, none, .mv (.t 0)⟩,
        ⟨some 11, none, .mv (.t 1)⟩,
        ⟨some 12, none, .bin .add (.t 10) (.t 11)⟩,
        ⟨some 0, none, .mv (.t 12)⟩])
      .skip))
    (.keep [0]
     (.seq
      (.ops [⟨some 13, none, .mv (.t 0)⟩,
        ⟨some 4, none, .mv (.t 13)⟩])
      .ret))))) }
structure N105 (R : Env) : Prop where
  o105 : R.Fn 105 c105
def c95 : IFn := { np := 3, rs := [.cell 6 true 3], body :=
 (.seq
  (.ops [⟨some 3, none, .box 12 (.t 0)⟩,
    ⟨some 6, none, .alloc 13 [.int .i64 0, .int .i64 0, .int .i64 0]⟩])
  (.seq
   (.draw [0, 1, 0, 0, 8, 28, 0, 64, 252, 0, 0, 1024, 3644, 8188, 16383, 32767, 65535] [[3], [7], [2], [3], [10], [9, 11], [3], [13], [12, 14], [1], [3], [17], [16, 18], [15, 19], [8, 20], [21], [6, 22]] [⟨some 7, none, .fldA 1 (.t 3)⟩,
     ⟨some 8, none, .load false 1 (.t 7)⟩,
     ⟨some 9, none, .mv (.t 2)⟩,
     ⟨some 10, none, .fldA 0 (.t 3)⟩,
     ⟨some 11, none, .load false 1 (.t 10)⟩,
     ⟨some 12, none, .call 105 [.t 9, .t 11]⟩,
     ⟨some 13, none, .fldA 0 (.t 3)⟩,
     ⟨some 14, none, .load false 1 (.t 13)⟩,
     ⟨some 15, none, .bin .mul (.t 12) (.t 14)⟩,
     ⟨some 16, none, .mv (.t 1)⟩,
     ⟨some 17, none, .fldA 0 (.t 3)⟩,
     ⟨some 18, none, .load false 1 (.t 17)⟩,
     ⟨some 19, none, .call 105 [.t 16, .t 18]⟩,
     ⟨some 20, none, .bin .add (.t 15) (.t 19)⟩,
     ⟨some 21, none, .idxS 3 (.t 8) (.t 20)⟩,
     ⟨some 22, none, .load true 3 (.t 21)⟩,
     ⟨none, none, .store 3 (.t 6) (.t 22)⟩])
   (.keep [6]
    .ret))) }
structure N95 (R : Env) : Prop where
  o95 : R.Fn 95 c95
  n105 : N105 R
def c92 : IFn := { np := 1, rs := [.cell 2 true 2, .t 3], body :=
 (.seq
  (.ops [⟨some 1, none, .box 12 (.t 0)⟩,
    ⟨some 2, none, .alloc 12 [.int .i64 0, .nils]⟩,
    ⟨some 3, none, .mv (.k (.int .i64 0))⟩])
  (.seq
   (.seq
    (.ops [⟨some 13, none, .load true 2 (.t 1)⟩,
      ⟨some 14, none, .call 85 [.t 13]⟩,
      ⟨some 4, none, .mv (.t 14)⟩])
    (.seq
     (.ops [⟨some 15, none, .mv (.t 4)⟩,
       ⟨some 16, none, .bin .neq (.t 15) (.k (.int .i64 0))⟩])
     (.cond (.t 16)
      (.seq
       (.ops [⟨some 17, none, .build [.int .i64 0, .nils] []⟩,
         ⟨some 18, none, .mv (.t 4)⟩,
         ⟨none, none, .store 2 (.t 2) (.t 17)⟩,
         ⟨some 3, none, .mv (.t 18)⟩])
       .ret)
      .skip)))
   (.keep [1, 2]
    (.seq
     (.seq
      (.ops [⟨some 19, none, .fldA 0 (.t 1)⟩,
        ⟨some 20, none, .load false 1 (.t 19)⟩,
        ⟨some 21, none, .bin .eql (.t 20) (.k (.int .i64 1))⟩])
      (.cond (.t 21)
       (.seq
        (.ops [⟨some 22, none, .build [.int .i64 0, .nils] []⟩,
          ⟨none, none, .store 2 (.t 2) (.t 22)⟩,
          ⟨some 3, none, .mv (.k (.int .i64 2))⟩])
        .ret)
       .skip))
     (.keep [1, 2]
      (.seq
       (.ops [⟨some 23, none, .fldA 0 (.t 1)⟩,
         ⟨some 24, none, .load false 1 (.t 23)⟩,
         ⟨some 25, none, .bin .quo (.t 24) (.k (.int .i64 2))⟩,
         ⟨some 26, none, .build [.int .i64 0, .nils] [(0, 1, .t 25)]⟩,
         ⟨some 5, none, .alloc 12 [.int .i64 0, .nils]⟩,
         ⟨none, none, .store 2 (.t 5) (.t 26)⟩])
       (.keep [1, 2, 5]
        (.seq
         (.seq
          (.ops [⟨some 6, none, .mv (.k (.int .i64 0))⟩])
          (.keep [1, 2, 5, 6]
           (.block 0
            (.loop
             (.seq
              (.seq
               (.ops [⟨some 27, none, .mv (.t 6)⟩,
                 ⟨some 28, none, .fldA 0 (.t 5)⟩,
                 ⟨some 29, none, .load false 1 (.t 28)⟩,
                 ⟨some 30, none, .bin .lss (.t 27) (.t 29)⟩])
               (.cond (.t 30)
                .skip
                (.exit 0)))
              (.keep [1, 2, 5, 6]
               (.seq
                (.block 1
                 (.seq
                  (.ops [⟨some 7, none, .mv (.k (.int .i64 0))⟩])
                  (.keep [1, 2, 5, 6, 7]
                   (.block 2
                    (.loop
                     (.seq
                      (.seq
                       (.ops [⟨some 33, none, .mv (.t 7)⟩,
                         ⟨some 34, none, .fldA 0 (.t 5)⟩,
                         ⟨some 35, none, .load false 1 (.t 34)⟩,
                         ⟨some 36, none, .bin .lss (.t 33) (.t 35)⟩])
                       (.cond (.t 36)
                        .skip
                        (.exit 2)))
                      (.keep [1, 2, 5, 6, 7]
                       (.seq
                        (.block 3
                         (.seq
                          (.ops [⟨some 8, none, .alloc 13 [.int .i64 0, .int .i64 0, .int .i64 0]⟩])
                          (.seq
                           (.seq
                            (.ops [⟨some 9, none, .mv (.k (.int .i64 0))⟩])
                            (.keep [1, 2, 5, 6, 7, 8, 9]
                             (.block 4
                              (.loop
                               (.seq
                                (.seq
                                 (.ops [⟨some 39, none, .mv (.t 9)⟩,
                                   ⟨some 40, none, .bin .lss (.t 39) (.k (.int .i64 4))⟩])
                                 (.cond (.t 40)
                                  .skip
                                  (.exit 4)))
                                (.keep [1, 2, 5, 6, 7, 8, 9]
                                 (.seq
                                  (.block 5
                                   (.seq
                                    (.ops [⟨some 43, none, .load true 2 (.t 1)⟩,
                                      ⟨some 44, none, .mv (.t 7)⟩,
                                      ⟨some 45, none, .bin .mul (.k (.int .i64 2)) (.t 44)⟩,
                                      ⟨some 46, none, .mv (.t 9)⟩,
                                      ⟨some 47, none, .bin .rem (.t 46) (.k (.int .i64 2))⟩,
                                      ⟨some 48, none, .bin .add (.t 45) (.t 47)⟩,
                                      ⟨some 49, none, .mv (.t 6)⟩,
                                      ⟨some 50, none, .bin .mul (.k (.int .i64 2)) (.t 49)⟩,
                                      ⟨some 51, none, .mv (.t 9)⟩,
                                      ⟨some 52, none, .bin .quo (.t 51) (.k (.int .i64 2))⟩,
                                      ⟨some 53, none, .bin .add (.t 50) (.t 52)⟩,
                                      ⟨some 54, none, .call 95 [.t 43, .t 48, .t 53]⟩,
                                      ⟨some 10, none, .alloc 13 [.int .i64 0, .int .i64 0, .int .i64 0]⟩,
                                      ⟨none, none, .store 3 (.t 10) (.t 54)⟩])
                                    (.keep [1, 2, 5, 6, 7, 8, 9, 10]
                                     (.seq
                                      (.ops [⟨some 11, none, .mv (.k (.int .i64 0))⟩])
                                      (.keep [1, 2, 5, 6, 7, 8, 9, 10, 11]
                                       (.block 6
                                        (.loop
                                         (.seq
                                          (.seq
                                           (.ops [⟨some 55, none, .mv (.t 11)⟩,
                                             ⟨some 56, none, .bin .lss (.t 55) (.k (.int .i64 3))⟩])
                                           (.cond (.t 56)
                                            .skip
                                            (.exit 6)))
                                          (.keep [1, 2, 5, 6, 7, 8, 9, 10, 11]
                                           (.seq
                                            (.block 7
                                             (.draw [0, 0, 2, 6, 0, 16, 48, 126, 255, 511] [[11], [11], [8, 60], [61], [11], [10, 63], [64], [62, 65], [8, 59], [67, 66]] [⟨some 59, none, .mv (.t 11)⟩,
                                               ⟨some 60, none, .mv (.t 11)⟩,
                                               ⟨some 61, none, .idxA 3 1 (.t 8) (.t 60)⟩,
                                               ⟨some 62, none, .load false 1 (.t 61)⟩,
                                               ⟨some 63, none, .mv (.t 11)⟩,
                                               ⟨some 64, none, .idxA 3 1 (.t 10) (.t 63)⟩,
                                               ⟨some 65, none, .load false 1 (.t 64)⟩,
                                               ⟨some 66, none, .bin .add (.t 62) (.t 65)⟩,
                                               ⟨some 67, none, .idxA 3 1 (.t 8) (.t 59)⟩,
                                               ⟨none, none, .store 1 (.t 67) (.t 66)⟩]))
                                            (.keep [1, 2, 5, 6, 7, 8, 9, 10, 11]
                                             (.ops [⟨some 57, none, .mv (.t 11)⟩,
                                               ⟨some 58, none, .bin .add (.t 57) (.k (.int .i64 1))⟩,
                                               ⟨some 11, none, .mv (.t 58)⟩]))))))))))))
                                  (.keep [1, 2, 5, 6, 7, 8, 9]
                                   (.ops [⟨some 41, none, .mv (.t 9)⟩,
                                     ⟨some 42, none, .bin .add (.t 41) (.k (.int .i64 1))⟩,
                                     ⟨some 9, none, .mv (.t 42)⟩])))))))))
                           (.keep [1, 2, 5, 6, 7, 8]
                            (.seq
                             (.seq
                              (.ops [⟨some 12, none, .mv (.k (.int .i64 0))⟩])
                              (.keep [1, 2, 5, 6, 7, 8, 12]
                               (.block 8
                                (.loop
                                 (.seq
                                  (.seq
                                   (.ops [⟨some 68, none, .mv (.t 12)⟩,
                                     ⟨some 69, none, .bin .lss (.t 68) (.k (.int .i64 3))⟩])
                                   (.cond (.t 69)
                                    .skip
                                    (.exit 8)))
                                  (.keep [1, 2, 5, 6, 7, 8, 12]
                                   (.seq
                                    (.block 9
                                     (.ops [⟨some 72, none, .mv (.t 12)⟩,
                                       ⟨some 73, none, .mv (.t 12)⟩,
                                       ⟨some 74, none, .idxA 3 1 (.t 8) (.t 73)⟩,
                                       ⟨some 75, none, .load false 1 (.t 74)⟩,
                                       ⟨some 76, none, .bin .add (.t 75) (.k (.int .i64 2))⟩,
                                       ⟨some 77, none, .bin .quo (.t 76) (.k (.int .i64 4))⟩,
                                       ⟨some 78, none, .idxA 3 1 (.t 8) (.t 72)⟩,
                                       ⟨none, none, .store 1 (.t 78) (.t 77)⟩]))
                                    (.keep [1, 2, 5, 6, 7, 8, 12]
                                     (.ops [⟨some 70, none, .mv (.t 12)⟩,
                                       ⟨some 71, none, .bin .add (.t 70) (.k (.int .i64 1))⟩,
                                       ⟨some 12, none, .mv (.t 71)⟩])))))))))
                             (.keep [1, 2, 5, 6, 7, 8]
                              (.ops [⟨some 79, none, .fldA 1 (.t 5)⟩,
                                ⟨some 80, none, .load false 1 (.t 79)⟩,
                                ⟨some 81, none, .load true 3 (.t 8)⟩,
                                ⟨some 82, none, .bslice 13 3 1 [.int .i64 0, .int .i64 0, .int .i64 0] [(0, .t 81)]⟩,
                                ⟨some 83, none, .app 13 3 (.t 80) (.t 82)⟩,
                                ⟨some 84, none, .fldA 1 (.t 5)⟩,
                                ⟨none, none, .store 1 (.t 84) (.t 83)⟩])))))))
                        (.keep [1, 2, 5, 6, 7]
                         (.ops [⟨some 37, none, .mv (.t 7)⟩,
                           ⟨some 38, none, .bin .add (.t 37) (.k (.int .i64 1))⟩,
                           ⟨some 7, none, .mv (.t 38)⟩]))))))))))
                (.keep [1, 2, 5, 6]
                 (.ops [⟨some 31, none, .mv (.t 6)⟩,
                   ⟨some 32, none, .bin .add (.t 31) (.k (.int .i64 1))⟩,
                   ⟨some 6, none, .mv (.t 32)⟩])))))))))
         (.keep [2, 5]
          (.seq
           (.ops [⟨some 85, none, .load true 2 (.t 5)⟩,
             ⟨none, none, .store 2 (.t 2) (.t 85)⟩,
             ⟨some 3, none, .mv (.k (.int .i64 0))⟩])
           .ret)))))))))) }
structure N92 (R : Env) : Prop where
  o92 : R.Fn 92 c92
  n85 : N85 R
  n95 : N95 R
def c93 : IFn := { np := 1, rs := [.t 2, .t 3], body :=
 (.seq
  (.ops [⟨some 1, none, .box 12 (.t 0)⟩,
    ⟨some 2, none, .mv (.k (.nils))⟩,
    ⟨some 3, none, .mv (.k (.int .i64 0))⟩])
  (.seq
   (.seq
    (.ops [⟨some 6, none, .load true 2 (.t 1)⟩,
      ⟨some 7, none, .call 85 [.t 6]⟩,
      ⟨some 4, none, .mv (.t 7)⟩])
    (.seq
     (.ops [⟨some 8, none, .mv (.t 4)⟩,
       ⟨some 9, none, .bin .neq (.t 8) (.k (.int .i64 0))⟩])
     (.cond (.t 9)
      (.seq
       (.ops [⟨some 10, none, .mv (.t 4)⟩,
         ⟨some 2, none, .mv (.k (.nils))⟩,
         ⟨some 3, none, .mv (.t 10)⟩])
       .ret)
      .skip)))
   (.keep [1]
    (.seq
     (.ops [⟨some 11, none, .load true 2 (.t 1)⟩,
       ⟨some 12, none, .bslice 12 2 1 [.int .i64 0, .nils] [(0, .t 11)]⟩,
       ⟨some 5, none, .mv (.t 12)⟩])
     (.keep [1, 5]
      (.seq
       (.block 0
        (.loop
         (.seq
          (.seq
           (.ops [⟨some 13, none, .fldA 0 (.t 1)⟩,
             ⟨some 14, none, .load false 1 (.t 13)⟩,
             ⟨some 15, none, .bin .gtr (.t 14) (.k (.int .i64 1))⟩])
           (.cond (.t 15)
            .skip
            (.exit 0)))
          (.keep [1, 5]
           (.block 1
            (.seq
             (.ops [⟨some 17, none, .load true 2 (.t 1)⟩,
               ⟨some 18, none, .call 92 [.t 17]⟩,
               ⟨some 16, none, .mv (.t 18)⟩,
               ⟨some 19, none, .ext (.t 16) 0⟩,
               ⟨some 20, none, .ext (.t 16) 1⟩,
               ⟨none, none, .store 2 (.t 1) (.t 19)⟩])
             (.keep [1, 5]
              (.ops [⟨some 21, none, .mv (.t 5)⟩,
                ⟨some 22, none, .load true 2 (.t 1)⟩,
                ⟨some 23, none, .bslice 12 2 1 [.int .i64 0, .nils] [(0, .t 22)]⟩,
                ⟨some 24, none, .app 12 2 (.t 21) (.t 23)⟩,
                ⟨some 5, none, .mv (.t 24)⟩]))))))))
       (.keep [5]
        (.seq
         (.ops [⟨some 25, none, .mv (.t 5)⟩,
           ⟨some 2, none, .mv (.t 25)⟩,
           ⟨some 3, none, .mv (.k (.int .i64 0))⟩])
         .ret)))))))) }
structure N93 (R : Env) : Prop where
  o93 : R.Fn 93 c93
  n85 : N85 R
  n92 : N92 R
end Go.UM

namespace Go.UM
open Go.AM
def c81 : IFn := { np := 1, rs := [.cell 2 true 2], body :=
 (.seq
  (.ops [⟨some 1, none, .box 12 (.t 0)⟩,
    ⟨some 2, none, .alloc 12 [.int .i64 0, .nils]⟩])
  (.seq
   (.draw [0, 1, 0, 4, 0, 16, 48, 112, 252, 511, 1023] [[1], [3], [1], [5], [1], [7], [8], [9], [6, 10], [4, 11], [2, 12]] [⟨some 3, none, .fldA 0 (.t 1)⟩,
     ⟨some 4, none, .load false 1 (.t 3)⟩,
     ⟨some 5, none, .fldA 1 (.t 1)⟩,
     ⟨some 6, none, .load false 1 (.t 5)⟩,
     ⟨some 7, none, .fldA 1 (.t 1)⟩,
     ⟨some 8, none, .load false 1 (.t 7)⟩,
     ⟨some 9, none, .lenS (.t 8)⟩,
     ⟨some 10, none, .mm false [.t 9, .k (.int .i64 260)]⟩,
     ⟨some 11, none, .slcS 13 3 (.t 6) none (some (.t 10)) none⟩,
     ⟨some 12, none, .build [.int .i64 0, .nils] [(0, 1, .t 4), (1, 1, .t 11)]⟩,
     ⟨none, none, .store 2 (.t 2) (.t 12)⟩])
   (.keep [2]
    .ret))) }
structure N81 (R : Env) : Prop where
  o81 : R.Fn 81 c81
def c86 : IFn := { np := 0, rs := [.t 0], body :=
 (.seq
  (.ops [⟨some 0, none, .mv (.k (.bool false))⟩])
  (.seq
   (.ops [⟨some 4, none, .build [.int .i64 0, .int .i64 0, .int .i64 0] [(0, 1, .k (.int .i64 0))]⟩,
     ⟨some 5, none, .build [.int .i64 0, .int .i64 0, .int .i64 0] [(0, 1, .k (.int .i64 1))]⟩,
     ⟨some 6, none, .build [.int .i64 0, .int .i64 0, .int .i64 0] [(0, 1, .k (.int .i64 2))]⟩,
     ⟨some 7, none, .build [.int .i64 0, .int .i64 0, .int .i64 0] [(0, 1, .k (.int .i64 4))]⟩,
     ⟨some 8, none, .bslice 13 3 4 [.int .i64 0, .int .i64 0, .int .i64 0] [(0, .t 4), (1, .t 5), (2, .t 6), (3, .t 7)]⟩,
     ⟨some 9, none, .build [.int .i64 0, .nils] [(0, 1, .k (.int .i64 2)), (1, 1, .t 8)]⟩,
     ⟨some 10, none, .call 91 [.t 9]⟩,
     ⟨some 3, none, .mv (.t 10)⟩,
     ⟨some 11, none, .ext (.t 3) 0⟩,
     ⟨some 12, none, .ext (.t 3) 1⟩,
     ⟨some 1, none, .alloc 12 [.int .i64 0, .nils]⟩,
     ⟨none, none, .store 2 (.t 1) (.t 11)⟩,
     ⟨some 2, none, .mv (.t 12)⟩])
   (.keep [1, 2]
    (.seq
     (.ops [⟨some 13, none, .mv (.t 2)⟩,
       ⟨some 14, none, .bin .eql (.t 13) (.k (.int .i64 0))⟩,
       ⟨some 15, none, .mv (.t 14)⟩,
       ⟨some 16, some (15, true), .fldA 0 (.t 1)⟩,
       ⟨some 17, some (15, true), .load false 1 (.t 16)⟩,
       ⟨some 18, some (15, true), .bin .eql (.t 17) (.k (.int .i64 1))⟩,
       ⟨some 19, none, .pick (.t 15) (.t 18) (.k (.bool false))⟩,
       ⟨some 20, none, .mv (.t 19)⟩,
       ⟨some 21, some (20, true), .fldA 1 (.t 1)⟩,
       ⟨some 22, some (20, true), .load false 1 (.t 21)⟩,
       ⟨some 23, some (20, true), .lenS (.t 22)⟩,
       ⟨some 24, some (20, true), .bin .eql (.t 23) (.k (.int .i64 1))⟩,
       ⟨some 25, none, .pick (.t 20) (.t 24) (.k (.bool false))⟩,
       ⟨some 26, none, .mv (.t 25)⟩,
       ⟨some 27, some (26, true), .fldA 1 (.t 1)⟩,
       ⟨some 28, some (26, true), .load false 1 (.t 27)⟩,
       ⟨some 29, some (26, true), .idxS 3 (.t 28) (.k (.int .i64 0))⟩,
       ⟨some 30, some (26, true), .load true 3 (.t 29)⟩,
       ⟨some 31, some (26, true), .build [.int .i64 0, .int .i64 0, .int .i64 0] [(0, 1, .k (.int .i64 2))]⟩,
       ⟨some 32, some (26, true), .eqa false [.i, .i, .i] (.t 30) (.t 31)⟩,
       ⟨some 33, none, .pick (.t 26) (.t 32) (.k (.bool false))⟩,
       ⟨some 0, none, .mv (.t 33)⟩])
     (.keep [0]
      .ret))))) }
structure N86 (R : Env) : Prop where
  o86 : R.Fn 86 c86
  n91 : N91 R
def c90 : IFn := { np := 3, rs := [.t 6], body :=
 (.seq
  (.ops [⟨some 3, none, .box 12 (.t 0)⟩,
    ⟨some 6, none, .mv (.k (.bool false))⟩])
  (.seq
   (.ops [⟨some 18, none, .load true 2 (.t 3)⟩,
     ⟨some 19, none, .call 81 [.t 18]⟩,
     ⟨none, none, .store 2 (.t 3) (.t 19)⟩])
   (.seq
    (.ops [⟨some 21, none, .load true 2 (.t 3)⟩,
      ⟨some 22, none, .call 91 [.t 21]⟩,
      ⟨some 20, none, .mv (.t 22)⟩,
      ⟨some 23, none, .ext (.t 20) 0⟩,
      ⟨some 24, none, .ext (.t 20) 1⟩,
      ⟨some 7, none, .alloc 12 [.int .i64 0, .nils]⟩,
      ⟨none, none, .store 2 (.t 7) (.t 23)⟩,
      ⟨some 8, none, .mv (.t 24)⟩])
    (.keep [1, 2, 3, 7, 8]
     (.seq
      (.ops [⟨some 26, none, .load true 2 (.t 3)⟩,
        ⟨some 27, none, .call 92 [.t 26]⟩,
        ⟨some 25, none, .mv (.t 27)⟩,
        ⟨some 28, none, .ext (.t 25) 0⟩,
        ⟨some 29, none, .ext (.t 25) 1⟩,
        ⟨some 9, none, .alloc 12 [.int .i64 0, .nils]⟩,
        ⟨none, none, .store 2 (.t 9) (.t 28)⟩,
        ⟨some 10, none, .mv (.t 29)⟩])
      (.keep [1, 2, 3, 7, 8, 9, 10]
       (.seq
        (.ops [⟨some 31, none, .load true 2 (.t 3)⟩,
          ⟨some 32, none, .call 88 [.t 31]⟩,
          ⟨some 30, none, .mv (.t 32)⟩,
          ⟨some 33, none, .ext (.t 30) 0⟩,
          ⟨some 34, none, .ext (.t 30) 1⟩,
          ⟨some 11, none, .mv (.t 33)⟩,
          ⟨some 12, none, .mv (.t 34)⟩])
        (.keep [1, 2, 3, 7, 8, 9, 10, 11, 12]
         (.seq
          (.ops [⟨some 36, none, .load true 2 (.t 3)⟩,
            ⟨some 37, none, .call 93 [.t 36]⟩,
            ⟨some 35, none, .mv (.t 37)⟩,
            ⟨some 38, none, .ext (.t 35) 0⟩,
            ⟨some 39, none, .ext (.t 35) 1⟩,
            ⟨some 13, none, .mv (.t 38)⟩,
            ⟨some 14, none, .mv (.t 39)⟩])
          (.keep [1, 2, 3, 7, 8, 9, 10, 11, 12, 13, 14]
           (.seq
            (.seq
             (.ops [⟨some 40, none, .load true 2 (.t 7)⟩,
               ⟨some 41, none, .load true 2 (.t 9)⟩,
               ⟨some 42, none, .call 89 [.t 40, .t 41]⟩,
               ⟨some 43, none, .un .not (.t 42)⟩,
               ⟨some 44, none, .mv (.t 43)⟩,
               ⟨some 45, some (44, false), .mv (.t 8)⟩,
               ⟨some 46, some (44, false), .mv (.t 10)⟩,
               ⟨some 47, some (44, false), .bin .neq (.t 45) (.t 46)⟩,
               ⟨some 48, none, .pick (.t 44) (.k (.bool true)) (.t 47)⟩,
               ⟨some 49, none, .mv (.t 48)⟩,
               ⟨some 50, some (49, false), .mv (.t 11)⟩,
               ⟨some 51, some (49, false), .lenS (.t 50)⟩,
               ⟨some 52, some (49, false), .mv (.t 13)⟩,
               ⟨some 53, some (49, false), .lenS (.t 52)⟩,
               ⟨some 54, some (49, false), .bin .neq (.t 51) (.t 53)⟩,
               ⟨some 55, none, .pick (.t 49) (.k (.bool true)) (.t 54)⟩,
               ⟨some 56, none, .mv (.t 55)⟩,
               ⟨some 57, some (56, false), .mv (.t 12)⟩,
               ⟨some 58, some (56, false), .mv (.t 14)⟩,
               ⟨some 59, some (56, false), .bin .neq (.t 57) (.t 58)⟩,
               ⟨some 60, none, .pick (.t 56) (.k (.bool true)) (.t 59)⟩])
             (.keep [1, 2, 3, 11, 13, 14, 60]
              (.cond (.t 60)
               (.seq
                (.ops [⟨some 6, none, .mv (.k (.bool false))⟩])
                .ret)
               .skip)))
            (.keep [1, 2, 3, 11, 13, 14]
             (.seq
              (.seq
               (.ops [⟨some 61, none, .mv (.t 11)⟩,
                 ⟨some 62, none, .lenS (.t 61)⟩,
                 ⟨some 63, none, .mv (.k (.int .i64 0))⟩])
               (.keep [1, 2, 3, 11, 13, 14, 62, 63]
                (.block 0
                 (.loop
                  (.seq
                   (.ops [⟨some 64, none, .bin .lss (.t 63) (.t 62)⟩])
                   (.seq
                    (.cond (.t 64)
                     .skip
                     (.exit 0))
                    (.keep [1, 2, 3, 11, 13, 14, 62, 63]
                     (.seq
                      (.block 1
                       (.seq
                        (.ops [⟨some 65, none, .mv (.t 63)⟩,
                          ⟨some 15, none, .mv (.t 65)⟩])
                        (.seq
                         (.draw [0, 0, 3, 7, 0, 0, 48, 112, 255, 511] [[11], [15], [66, 67], [68], [13], [15], [70, 71], [72], [69, 73], [74]] [⟨some 66, none, .mv (.t 11)⟩,
                           ⟨some 67, none, .mv (.t 15)⟩,
                           ⟨some 68, none, .idxS 2 (.t 66) (.t 67)⟩,
                           ⟨some 69, none, .load true 2 (.t 68)⟩,
                           ⟨some 70, none, .mv (.t 13)⟩,
                           ⟨some 71, none, .mv (.t 15)⟩,
                           ⟨some 72, none, .idxS 2 (.t 70) (.t 71)⟩,
                           ⟨some 73, none, .load true 2 (.t 72)⟩,
                           ⟨some 74, none, .call 89 [.t 69, .t 73]⟩,
                           ⟨some 75, none, .un .not (.t 74)⟩])
                         (.keep [1, 2, 3, 11, 13, 14, 62, 63, 75]
                          (.cond (.t 75)
                           (.seq
                            (.ops [⟨some 6, none, .mv (.k (.bool false))⟩])
                            .ret)
                           .skip)))))
                      (.keep [1, 2, 3, 11, 13, 14, 62, 63]
                       (.ops [⟨some 76, none, .bin .add (.t 63) (.k (.int .i64 1))⟩,
                         ⟨some 63, none, .mv (.t 76)⟩]))))))))))
              (.keep [1, 2, 3, 14]
               (.seq
                (.ops [⟨some 78, none, .load true 2 (.t 3)⟩,
                  ⟨some 79, none, .mv (.t 1)⟩,
                  ⟨some 80, none, .mv (.t 2)⟩,
                  ⟨some 81, none, .call 94 [.t 78, .t 79, .t 80]⟩,
                  ⟨some 77, none, .mv (.t 81)⟩,
                  ⟨some 82, none, .ext (.t 77) 0⟩,
                  ⟨some 83, none, .ext (.t 77) 1⟩,
                  ⟨some 16, none, .alloc 13 [.int .i64 0, .int .i64 0, .int .i64 0]⟩,
                  ⟨none, none, .store 3 (.t 16) (.t 82)⟩,
                  ⟨some 17, none, .mv (.t 83)⟩])
                (.keep [1, 2, 3, 14, 16, 17]
                 (.seq
                  (.seq
                   (.ops [⟨some 84, none, .mv (.t 14)⟩,
                     ⟨some 85, none, .bin .neq (.t 84) (.k (.int .i64 0))⟩])
                   (.cond (.t 85)
                    (.seq
                     (.ops [⟨some 86, none, .mv (.t 17)⟩,
                       ⟨some 87, none, .mv (.t 14)⟩,
                       ⟨some 88, none, .bin .eql (.t 86) (.t 87)⟩,
                       ⟨some 89, none, .mv (.t 88)⟩,
                       ⟨some 90, some (89, true), .load true 3 (.t 16)⟩,
                       ⟨some 91, some (89, true), .build [.int .i64 0, .int .i64 0, .int .i64 0] []⟩,
                       ⟨some 92, some (89, true), .eqa false [.i, .i, .i] (.t 90) (.t 91)⟩,
                       ⟨some 93, none, .pick (.t 89) (.t 92) (.k (.bool false))⟩,
                       ⟨some 94, none, .mv (.t 93)⟩,
                       ⟨some 95, some (94, true), .call 86 []⟩,
                       ⟨some 96, none, .pick (.t 94) (.t 95) (.k (.bool false))⟩,
                       ⟨some 6, none, .mv (.t 96)⟩])
                     (.keep [6]
                      .ret))
                    .skip))
                  (.keep [1, 2, 3, 16, 17]
                   (.seq
                    (.draw [0, 1, 3, 7, 7, 7, 7, 119, 255, 511, 1023, 2047, 4095, 8191] [[17], [97], [98], [16], [3], [1], [2], [101, 102, 103], [100, 104], [99, 105], [106], [], [107, 108], [109]] [⟨some 97, none, .mv (.t 17)⟩,
                      ⟨some 98, none, .bin .eql (.t 97) (.k (.int .i64 0))⟩,
                      ⟨some 99, none, .mv (.t 98)⟩,
                      ⟨some 100, some (99, true), .load true 3 (.t 16)⟩,
                      ⟨some 101, some (99, true), .load true 2 (.t 3)⟩,
                      ⟨some 102, some (99, true), .mv (.t 1)⟩,
                      ⟨some 103, some (99, true), .mv (.t 2)⟩,
                      ⟨some 104, some (99, true), .call 95 [.t 101, .t 102, .t 103]⟩,
                      ⟨some 105, some (99, true), .eqa false [.i, .i, .i] (.t 100) (.t 104)⟩,
                      ⟨some 106, none, .pick (.t 99) (.t 105) (.k (.bool false))⟩,
                      ⟨some 107, none, .mv (.t 106)⟩,
                      ⟨some 108, some (107, true), .call 86 []⟩,
                      ⟨some 109, none, .pick (.t 107) (.t 108) (.k (.bool false))⟩,
                      ⟨some 6, none, .mv (.t 109)⟩])
                    (.keep [6]
                     .ret)))))))))))))))))))) }
structure N90 (R : Env) : Prop where
  o90 : R.Fn 90 c90
  n81 : N81 R
  n86 : N86 R
  n88 : N88 R
  n89 : N89 R
  n91 : N91 R
  n92 : N92 R
  n93 : N93 R
  n94 : N94 R
  n95 : N95 R
end Go.UM

namespace Go.UM
open Go.AM
def u8 (n : Int) : UInt8 := UInt8.ofNat (n % 256).toNat
theorem wr_u8 (n : Int) : wr .u8 n = ((u8 n).toNat : Int) := by
  have h1 : 0 ≤ n % 256 := Int.emod_nonneg _ (by decide)
  have h2 : n % 256 < 256 := Int.emod_lt_of_pos _ (by decide)
  simp only [wr, IntKind.wrap, IntKind.bits, IntKind.signed, u8]
  simp
  omega
def slc8 (l : List UInt8) : List (List AV) := l.map fun c => [.int .u8 c.toNat]
def slcK (k : IntKind) (l : List Int) : List (List AV) := l.map fun x => [.int k x]
@[simp] theorem slc8_nil : slc8 [] = [] := rfl
@[simp] theorem slc8_length (l : List UInt8) : (slc8 l).length = l.length := by simp [slc8]
@[simp] theorem slc8_append (a b : List UInt8) : slc8 (a ++ b) = slc8 a ++ slc8 b := by simp [slc8]
@[simp] theorem slc8_one (n : Int) : [[AV.int .u8 (wr .u8 n)]] = slc8 [u8 n] := by simp [slc8, wr_u8]
@[simp] theorem slcK_nil (k : IntKind) : slcK k [] = [] := rfl
@[simp] theorem slcK_length (k : IntKind) (l : List Int) : (slcK k l).length = l.length := by simp [slcK]
@[simp] theorem slcK_append (k : IntKind) (a b : List Int) : slcK k (a ++ b) = slcK k a ++ slcK k b := by simp [slcK]
@[simp] theorem slc8_NmL (l : List UInt8) : NmL (slc8 l) := by simp [slc8]
@[simp] theorem slcK_NmL (k : IntKind) (l : List Int) : NmL (slcK k l) := by simp [slcK]
@[simp] theorem slc8_FlL (l : List UInt8) : FlL (slc8 l) := by simp [slc8]
@[simp] theorem slcK_FlL (k : IntKind) (l : List Int) : FlL (slcK k l) := by simp [slcK]
instance {l : List UInt8} : LenOf (slc8 l) l.length := ⟨slc8_length l⟩
instance {k : IntKind} {l : List Int} : LenOf (slcK k l) l.length := ⟨slcK_length k l⟩
@[simp] theorem mem_slc8 {e : List AV} {l : List UInt8} : e ∈ slc8 l ↔ ∃ c, c ∈ l ∧ [AV.int .u8 c.toNat] = e := by simp [slc8]
@[simp] theorem mem_slcK {k : IntKind} {e : List AV} {l : List Int} : e ∈ slcK k l ↔ ∃ c, c ∈ l ∧ [AV.int k c] = e := by simp [slcK]
theorem slc8_take (l : List UInt8) (k : Nat) : (slc8 l).take k = slc8 (l.take k) := by simp [slc8, List.map_take]
theorem slc8_drop (l : List UInt8) (k : Nat) : (slc8 l).drop k = slc8 (l.drop k) := by simp [slc8, List.map_drop]
theorem slcK_take (k' : IntKind) (l : List Int) (k : Nat) : (slcK k' l).take k = slcK k' (l.take k) := by simp [slcK, List.map_take]
theorem slcK_drop (k' : IntKind) (l : List Int) (k : Nat) : (slcK k' l).drop k = slcK k' (l.drop k) := by simp [slcK, List.map_drop]
theorem take_succ_get {α : Type} {l : List α} {k : Nat} {x : α} (h : l[k]? = some x) : l.take (k + 1) = l.take k ++ [x] := by
  rw [List.take_add_one, h]; rfl
theorem aS8 {s : List UInt8} {K : List UInt8 → Prop} (k : K s) : AStr (slc8 s) K := ⟨⟨s, rfl, k⟩⟩
theorem take_cap {α : Type} (l : List α) (m : Int) : l.take (min (l.length : Int) m).toNat = l.take m.toNat := by
  by_cases h : (l.length : Int) ≤ m
  · rw [show (min (l.length : Int) m).toNat = l.length by omega, List.take_of_length_le (Nat.le_refl _), List.take_of_length_le (by omega)]
  · rw [show (min (l.length : Int) m).toNat = m.toNat by omega]
instance {l : List UInt8} {k : Nat} : TkOf ((slc8 l).take k) (slc8 (l.take k)) := ⟨slc8_take l k⟩
instance {l : List UInt8} {k : Nat} : TkOf ((slc8 l).drop k) (slc8 (l.drop k)) := ⟨slc8_drop l k⟩
instance {l : List UInt8} {k j : Nat} : TkOf (((slc8 l).take k).drop j) (slc8 ((l.take k).drop j)) := ⟨by rw [slc8_take, slc8_drop]⟩
instance {kk : IntKind} {l : List Int} {k : Nat} : TkOf ((slcK kk l).take k) (slcK kk (l.take k)) := ⟨slcK_take kk l k⟩
instance {kk : IntKind} {l : List Int} {k : Nat} : TkOf ((slcK kk l).drop k) (slcK kk (l.drop k)) := ⟨slcK_drop kk l k⟩
instance {kk : IntKind} {l : List Int} {k j : Nat} : TkOf (((slcK kk l).take k).drop j) (slcK kk ((l.take k).drop j)) := ⟨by rw [slcK_take, slcK_drop]⟩
end Go.UM

namespace Go.UM
open Go.AM
structure T3 where
  (a b c : Int)
def t3 (x : T3) : List AV := [.int .i64 x.a, .int .i64 x.b, .int .i64 x.c]
def slc3 (l : List T3) : List (List AV) := l.map t3
@[simp] theorem slc3_nil : slc3 [] = [] := rfl
@[simp] theorem slc3_length (l : List T3) : (slc3 l).length = l.length := by simp [slc3]
@[simp] theorem slc3_append (a b : List T3) : slc3 (a ++ b) = slc3 a ++ slc3 b := by simp [slc3]
@[simp] theorem slc3_NmL (l : List T3) : NmL (slc3 l) := by simp [slc3, t3]
@[simp] theorem slc3_FlL (l : List T3) : FlL (slc3 l) := by simp [slc3, t3]
theorem slc3_take (l : List T3) (k : Nat) : (slc3 l).take k = slc3 (l.take k) := by simp [slc3, List.map_take]
theorem slc3_drop (l : List T3) (k : Nat) : (slc3 l).drop k = slc3 (l.drop k) := by simp [slc3, List.map_drop]
instance {l : List T3} : LenOf (slc3 l) l.length := ⟨slc3_length l⟩
instance {l : List T3} {k : Nat} : TkOf ((slc3 l).take k) (slc3 (l.take k)) := ⟨slc3_take l k⟩
instance {l : List T3} {k : Nat} : TkOf ((slc3 l).drop k) (slc3 (l.drop k)) := ⟨slc3_drop l k⟩
end Go.UM

namespace Go.UM
open Go.AM
set_option maxRecDepth 4000
def idx (l : List Int) (x : Int) : Int := if x ∈ l then (l.idxOf x : Int) else -1
theorem idxOf_at {x : Int} : ∀ {l : List Int} {i : Nat}, l[i]? = some x → x ∉ l.take i → l.idxOf x = i
  | [], _, h, _ => by simp at h
  | a :: r, 0, h, _ => by simp at h; simp [h]
  | a :: r, i + 1, h, hn => by
    simp only [List.take_succ_cons, List.mem_cons, not_or] at hn
    rw [List.idxOf_cons]
    have : (a == x) = false := by simpa using fun e => hn.1 e.symm
    rw [this, idxOf_at (by simpa using h) hn.2]
    rfl
theorem index_c {R : Env} (h : N106 R) (l : List Int) (x : Int) (hl : l.length ≤ 1073741824) : R.Pc 106 [.isl 1 (slcK .i64 l), .int .i64 x] (.int .i64 (idx l x)) :=
  h.o106.enter 100 rfl fun X bb hfit hp => by
    refine sh ?_
    refine lPa 100 (fun i : Nat => i ≤ l.length ∧ x ∉ l.take i) (fun i => ⟨[(0, .isl 1 (slcK .i64 l)), (1, .int .i64 x), (7, .int .i64 l.length), (8, .int .i64 i)], [], 0⟩) (fun i => l.length - i) (0) ?_ ?_
    · exact ⟨Nat.zero_le _, by simp⟩
    · intro i hi
      dsimp only
      refine sh ?_
      refine cS (fun h1 => ?_) (fun h1 => ?_)
      · obtain ⟨y, hy⟩ : ∃ u_, l[i]? = some u_ := ⟨_, List.getElem?_eq_getElem (by first | omega | (simp <;> omega))⟩
        refine sh ?_
        refine eget_map hy ?_
        refine sh ?_
        refine cS (fun h2 => ?_) (fun h2 => ?_)
        · subst h2
          refine sh ?_
          refine rT ?_
          all_goals repeat' (first | exact True.intro | refine And.intro ?_ ?_ | (intro _u; clear _u) | (with_reducible first | refine eM ?_ ?_ | refine eF ?_ ?_ ?_ | refine eN ?_ | refine eL ?_ ?_ ?_ | refine eA ?_ ?_ | refine IWk.mk ⟨_, hp, rfl⟩ ?_ ?_) | refine IWk.mk ⟨_, hp, rfl⟩ ?_ ?_)
          all_goals first | with_reducible rfl | omega | exact Or.inl (by decide) | (simp; done) | rfl | skip
          unfold idx
          rw [if_pos (List.mem_of_getElem? hy), idxOf_at hy hi.2]
        · refine sh ?_
          refine nXa (i + 1) ?_ ?_
          · refine ⟨by omega, ?_⟩
            rw [take_succ_get hy]
            simp only [List.mem_append, List.mem_singleton, not_or]
            exact ⟨hi.2, h2⟩
          · omega
      · refine sh ?_
        refine rT ?_
        all_goals repeat' (first | exact True.intro | refine And.intro ?_ ?_ | (intro _u; clear _u) | (with_reducible first | refine eM ?_ ?_ | refine eF ?_ ?_ ?_ | refine eN ?_ | refine eL ?_ ?_ ?_ | refine eA ?_ ?_ | refine IWk.mk ⟨_, hp, rfl⟩ ?_ ?_) | refine IWk.mk ⟨_, hp, rfl⟩ ?_ ?_)
        all_goals first | with_reducible rfl | omega | exact Or.inl (by decide) | (simp; done) | rfl | skip
        unfold idx
        rw [if_neg]
        rw [← List.take_of_length_le (l := l) (i := i) (by omega)]
        exact hi.2
theorem contains_c {R : Env} (h : N100 R) (l : List Int) (x : Int) (hl : l.length ≤ 1073741824) : R.Pc 100 [.isl 1 (slcK .i64 l), .int .i64 x] (.bool (decide (x ∈ l))) :=
  h.o100.enter 100 rfl fun X bb hfit hp => by
    refine sh ?_
    refine ICall.pure h.n106.o106.hb (index_c h.n106 l x hl) rfl ?_
    refine sh ?_
    refine rT ?_
    all_goals repeat' (first | exact True.intro | refine And.intro ?_ ?_ | (intro _u; clear _u) | (with_reducible first | refine eM ?_ ?_ | refine eF ?_ ?_ ?_ | refine eN ?_ | refine eL ?_ ?_ ?_ | refine eA ?_ ?_ | refine IWk.mk ⟨_, hp, rfl⟩ ?_ ?_) | refine IWk.mk ⟨_, hp, rfl⟩ ?_ ?_)
    all_goals first | with_reducible rfl | omega | exact Or.inl (by decide) | (simp; done) | rfl | skip
    unfold idx
    by_cases hx : x ∈ l
    · rw [if_pos hx]; simp [hx]
    · rw [if_neg hx]; simp [hx]
end Go.UM

namespace Go.UM
open Go.AM
set_option maxRecDepth 4000
def enc (w : Nat) (x : Int) : List UInt8 := (List.range w).map fun i => u8 (x / 256 ^ i)
@[simp] theorem enc_zero (x : Int) : enc 0 x = [] := rfl
@[simp] theorem enc_length (w : Nat) (x : Int) : (enc w x).length = w := by simp [enc]
end Go.UM

namespace Go.UM
open Go.AM
theorem ofInt_toNat {n : Nat} {x : Int} (h0 : 0 ≤ x) (h1 : x < 2 ^ n) : (BitVec.ofInt n x).toNat = x.toNat := by
  rw [BitVec.toNat_ofInt]
  congr 1
  apply Int.emod_eq_of_lt h0
  exact_mod_cast h1
theorem wr_nat_i64 {x : Nat} (h : x < 9223372036854775808) : wr .i64 (x : Int) = x := wr_in (k := .i64) ⟨by omega, by omega⟩
def le : List UInt8 → Nat
  | [] => 0
  | c :: r => c.toNat + 256 * le r
end Go.UM

namespace Go.UM
open Go.AM
set_option maxRecDepth 4000
structure Rd where
  l : List UInt8
  e : Int
  made : Bool
def Rd.row (r : Rd) : List AV := [.isl 1 (slc8 r.l), .int .i64 r.e, .bool r.made]
def Rd.off (r : Rd) : Bool := !r.made || decide (r.e ≠ 0)
def Rd.take (r : Rd) (n : Int) : List UInt8 × Rd :=
  if r.made = false ∨ r.e ≠ 0 then ([], r) else if n < 0 then ([], { r with e := 2 }) else if (r.l.length : Int) < n then ([], { r with e := 4 }) else (r.l.take n.toNat, { r with l := r.l.drop n.toNat })
def Rd.num (r : Rd) (w : Int) : Nat × Rd := let t := r.take (if w < 1 ∨ 8 < w then -1 else w); (le t.1, t.2)
def sx (w : Int) (n : Nat) : Int := if 2 * n < 256 ^ w.toNat then n else n - 256 ^ w.toNat
def Rd.int (r : Rd) (w : Int) : Int × Rd := (if w < 1 ∨ 8 < w then 0 else sx w (r.num w).1, (r.num w).2)
def Rd.err (r : Rd) : Int := if r.made = false then 1 else r.e
def Rd.fin (r : Rd) : Int := if r.err ≠ 0 then r.err else if 0 < r.l.length then 5 else 0
end Go.UM

namespace Go.UM
open Go.AM
set_option maxRecDepth 4000
structure RdOk (B : List UInt8) (r : Rd) : Prop where
  m : B.length ≤ 1073741824
  s : r.l = B.drop (B.length - r.l.length)
  made : r.made = true
theorem RdOk.len {B : List UInt8} {r : Rd} (h : RdOk B r) : r.l.length ≤ B.length := by rw [h.s]; simp
theorem RdOk.take {B : List UInt8} {r : Rd} (h : RdOk B r) (n : Int) : RdOk B (r.take n).2 := by
  unfold Rd.take
  split
  · exact h
  · split
    · exact ⟨h.m, h.s, h.made⟩
    · split
      · exact ⟨h.m, h.s, h.made⟩
      · refine ⟨h.m, ?_, h.made⟩
        have h1 := h.s
        have h2 := h.len
        simp only [List.length_drop]
        conv => lhs; rw [h1]
        rw [List.drop_drop]
        congr 1
        omega
theorem RdOk.num {B : List UInt8} {r : Rd} (h : RdOk B r) (w : Int) : RdOk B (r.num w).2 := h.take _
theorem RdOk.int {B : List UInt8} {r : Rd} (h : RdOk B r) (w : Int) : RdOk B (r.int w).2 := h.num w
theorem RdOk.err {B : List UInt8} {r : Rd} (h : RdOk B r) (e : Int) : RdOk B { r with e := e } := ⟨h.m, h.s, h.made⟩
theorem RdOk.new {B : List UInt8} (h : B.length ≤ 1073741824) : RdOk B ⟨B, 0, true⟩ := ⟨h, by simp, rfl⟩
end Go.UM

namespace Go.UM
open Go.AM
set_option maxRecDepth 4000
structure Tex where
  side : Int
  t : List T3
def Tex.row (x : Tex) : List AV := [.int .i64 x.side, .isl 3 (slc3 x.t)]
def T3.good (x : T3) : Bool := decide (0 ≤ x.a) && decide (0 ≤ x.b) && decide (0 ≤ x.c) && decide (x.a ≤ 255) && decide (x.b ≤ 255) && decide (x.c ≤ 255)
theorem T3.good_iff (x : T3) : x.good = true ↔ (0 ≤ x.a ∧ x.a ≤ 255) ∧ (0 ≤ x.b ∧ x.b ≤ 255) ∧ 0 ≤ x.c ∧ x.c ≤ 255 := by
  simp only [T3.good, Bool.and_eq_true, decide_eq_true_eq]
  omega
def sides : List Int := [1, 2, 4, 8, 16]
def tchk (x : Tex) : Int := if x.side ∉ sides ∨ (x.t.length : Int) ≠ x.side * x.side then 5 else if x.t.all T3.good = true then 0 else 5
theorem tchk_in {x : Tex} (h : x.side ∈ sides) : x.side = 1 ∨ x.side = 2 ∨ x.side = 4 ∨ x.side = 8 ∨ x.side = 16 := by
  simpa [sides] using h
theorem tchk_bad {x : Tex} {y : T3} (hy : y ∈ x.t) (h : y.good = false) : tchk x = 5 := by
  unfold tchk
  split
  · rfl
  · rw [if_neg]
    intro ha
    rw [List.all_eq_true.1 ha y hy] at h
    exact Bool.noConfusion h
theorem all_take_succ {α : Type} {n : List α} {k : Nat} {x : α} {p : α → Bool} (h : n[k]? = some x) : (n.take (k + 1)).all p = ((n.take k).all p && p x) := by
  rw [take_succ_get h]; simp
theorem tchk_c {R : Env} (h : N84 R) (x : Tex) (hl : x.t.length ≤ 1073741824) : R.Pc 84 [.agg x.row] (.int .i64 (tchk x)) :=
  h.o84.enter 100 rfl fun X bb hfit hp => by
    refine sh ?_
    refine cM true [] ((contains_c h.n100 sides x.side (by decide)).mc h.n100.o100.hb) ?_
    repeat ((intro _u; clear _u); first | refine eK ?_ | refine eP ?_)
    generalize hq : tchk x = q
    refine sh ?_
    refine cS (fun h1 => ?_) (fun h1 => ?_)
    · rw [tchk, if_pos (.inl h1)] at hq
      subst hq
      refine sh ?_
      exact rT
    · have h2 := tchk_in h1
      have hsq : x.side * x.side ≤ 256 ∧ 0 ≤ x.side * x.side := by
        rcases h2 with h | h | h | h | h <;> rw [h] <;> decide
      refine sh ?_
      refine cS (fun h3 => ?_) (fun h3 => ?_)
      · rw [tchk, if_pos (.inr h3)] at hq
        subst hq
        refine sh ?_
        exact rT
      · have hz : ¬ (x.side ∉ sides ∨ (x.t.length : Int) ≠ x.side * x.side) := by simp [h1, h3]
        refine sh ?_
        refine lPa 100 (fun i : Nat => i ≤ x.t.length ∧ (x.t.take i).all T3.good = true) (fun i => ⟨[(22, .isl 3 (slc3 x.t)), (23, .int .i64 x.t.length), (24, .int .i64 i)], [], 10⟩) (fun i => x.t.length - i) (0) ?_ ?_
        · exact ⟨Nat.zero_le _, rfl⟩
        · intro i hi
          dsimp only
          refine sh ?_
          refine cS (fun h4 => ?_) (fun h4 => ?_)
          · obtain ⟨y, hy⟩ : ∃ u_, x.t[i]? = some u_ := ⟨_, List.getElem?_eq_getElem (by first | omega | (simp <;> omega))⟩
            refine sh ?_
            refine eget_map hy ?_
            have hyg := T3.good_iff y
            refine sh ?_
            refine cS (fun h5 => ?_) (fun h5 => ?_)
            · have hb : y.good = false := by rw [Bool.eq_false_iff, ne_eq, hyg]; omega
              rw [tchk_bad (List.mem_of_getElem? hy) hb] at hq
              subst hq
              refine sh ?_
              exact rT
            · refine sh ?_
              refine cS (fun h6 => ?_) (fun h6 => ?_)
              · have hb : y.good = false := by rw [Bool.eq_false_iff, ne_eq, hyg]; omega
                rw [tchk_bad (List.mem_of_getElem? hy) hb] at hq
                subst hq
                refine sh ?_
                exact rT
              · refine sh ?_
                refine nXa (i + 1) ?_ ?_
                · refine ⟨by omega, ?_⟩
                  rw [all_take_succ hy, hi.2, Bool.true_and, hyg]
                  omega
                · omega
          · rw [tchk, if_neg hz, if_pos] at hq
            · subst hq
              refine sh ?_
              exact rT
            · have := hi.2
              rwa [List.take_of_length_le (by omega)] at this
end Go.UM

namespace Go.UM
open Go.AM
set_option maxRecDepth 4000
structure TexOk (t : Tex) : Prop where
  s : t.side ∈ sides
  l : (t.t.length : Int) = t.side * t.side
  g : t.t.all T3.good = true
theorem tchk_ok {t : Tex} (h : tchk t = 0) : TexOk t := by
  unfold tchk at h
  split at h
  · exact absurd h (by decide)
  · rename_i h1
    split at h
    · rename_i h2
      simp only [not_or, Decidable.not_not] at h1
      exact ⟨h1.1, h1.2, h2⟩
    · exact absurd h (by decide)
theorem TexOk.chk {t : Tex} (h : TexOk t) : tchk t = 0 := by
  unfold tchk
  rw [if_neg (by simp [h.s, h.l]), if_pos h.g]
theorem and_mask {y s : Int} (hs : s ∈ sides) (hy : inI .i64 y) : bit2 .and .i64 y (s - 1) = y % s := by
  have hs := by simpa [sides] using hs
  simp only [inI] at hy
  have e : bit2 .and .i64 y (s - 1) = wr .i64 ((BitVec.ofInt 64 y &&& BitVec.ofInt 64 (s - 1)).toNat : Int) := rfl
  have key : ∀ k : Nat, k ≤ 4 → s = 2 ^ k → bit2 .and .i64 y (s - 1) = y % s := by
    intro k hk hsk
    have hp : (2 : Nat) ^ k ≤ 2 ^ 4 := Nat.pow_le_pow_right (by decide) hk
    have hp0 : 0 < (2 : Nat) ^ k := Nat.pow_pos (by decide)
    have hsn : s = ((2 ^ k : Nat) : Int) := by rw [hsk, Int.natCast_pow]; rfl
    have h1 : (BitVec.ofInt 64 (s - 1)).toNat = 2 ^ k - 1 := by
      rw [ofInt_toNat (by omega) (by omega)]
      omega
    have h2 : (BitVec.ofInt 64 y).toNat = (y % 18446744073709551616).toNat := by
      rw [BitVec.toNat_ofInt]
      rfl
    rw [e, BitVec.toNat_and, h1, h2, Nat.and_two_pow_sub_one_eq_mod, wr_nat_i64 (by have := Nat.mod_lt (y % 18446744073709551616).toNat hp0; omega)]
    rw [Int.natCast_emod, ← hsn, Int.toNat_of_nonneg (Int.emod_nonneg _ (by decide))]
    apply Int.emod_emod_of_dvd
    rw [hsn, show (18446744073709551616 : Int) = ((2 ^ 64 : Nat) : Int) from rfl]
    exact Int.natCast_dvd_natCast.2 (Nat.pow_dvd_pow 2 (show k ≤ 64 by omega))
  rcases hs with h | h | h | h | h
  · exact key 0 (by decide) h
  · exact key 1 (by decide) h
  · exact key 2 (by decide) h
  · exact key 3 (by decide) h
  · exact key 4 (by decide) h
def Tex.ix (t : Tex) (x y : Int) : Nat := (y % t.side * t.side + x % t.side).toNat
def Tex.at (t : Tex) (x y : Int) : T3 := t.t.getD (t.ix x y) ⟨0, 0, 0⟩
theorem TexOk.ix {t : Tex} (h : TexOk t) (x y : Int) : 0 ≤ y % t.side ∧ y % t.side < t.side ∧ 0 ≤ x % t.side ∧ x % t.side < t.side ∧ t.side ≤ 16 ∧ 1 ≤ t.side ∧ 0 ≤ y % t.side * t.side ∧ y % t.side * t.side + x % t.side < t.side * t.side ∧ t.side * t.side ≤ 256 := by
  have hs := tchk_in h.s
  have h1 : 1 ≤ t.side ∧ t.side ≤ 16 := by omega
  have h2 := Int.emod_nonneg y (show t.side ≠ 0 by omega)
  have h3 := Int.emod_lt_of_pos y (show 0 < t.side by omega)
  have h4 := Int.emod_nonneg x (show t.side ≠ 0 by omega)
  have h5 := Int.emod_lt_of_pos x (show 0 < t.side by omega)
  have h6 : y % t.side * t.side ≤ (t.side - 1) * t.side := Int.mul_le_mul_of_nonneg_right (by omega) (by omega)
  have h7 : 0 ≤ y % t.side * t.side := Int.mul_nonneg h2 (by omega)
  have h8 : t.side * t.side ≤ 16 * 16 := Int.mul_le_mul h1.2 h1.2 (by omega) (by decide)
  rw [Int.sub_mul] at h6
  exact ⟨h2, h3, h4, h5, h1.2, h1.1, h7, by omega, by omega⟩
theorem TexOk.get {t : Tex} (h : TexOk t) (x y : Int) : t.t[(y % t.side * t.side + x % t.side).toNat]? = some (t.at x y) := by
  have hi := h.ix x y
  have hl := h.l
  have : (y % t.side * t.side + x % t.side).toNat < t.t.length := by omega
  unfold Tex.at Tex.ix
  rw [List.getD_eq_getElem?_getD, List.getElem?_eq_getElem this]
  rfl
theorem at_c {R : Env} (h : N104 R) (t : Tex) (ok : TexOk t) (x y : Int) (hx : inI .i64 x) (hy : inI .i64 y) : R.Pc 104 [.agg t.row, .int .i64 x, .int .i64 y] (.agg (t3 (t.at x y))) :=
  h.o104.enter 100 rfl fun X bb hfit hp => by
    have hi := ok.ix x y
    have hl := ok.l
    have hg := ok.get x y
    refine sh ?_
    rw [and_mask ok.s hy]
    refine wI ?_
    refine sh ?_
    rw [and_mask ok.s hx]
    refine wI ?_
    refine sh ?_
    refine eget_map hg ?_
    refine sh ?_
    exact rT
def avg (a b c d : T3) : T3 := ⟨(a.a + b.a + c.a + d.a + 2) / 4, (a.b + b.b + c.b + d.b + 2) / 4, (a.c + b.c + c.c + d.c + 2) / 4⟩
def Tex.next (t : Tex) (s i : Int) : T3 := avg (t.at (2 * (i % s)) (2 * (i / s))) (t.at (2 * (i % s) + 1) (2 * (i / s))) (t.at (2 * (i % s)) (2 * (i / s) + 1)) (t.at (2 * (i % s) + 1) (2 * (i / s) + 1))
def nexts (t : Tex) (k : Nat) : List T3 := (List.range k).map fun i : Nat => t.next (t.side / 2) (i : Int)
def Tex.half (t : Tex) : Tex := ⟨t.side / 2, nexts t (t.side / 2 * (t.side / 2)).toNat⟩
theorem nexts_succ (t : Tex) (k : Nat) : nexts t (k + 1) = nexts t k ++ [t.next (t.side / 2) k] := by simp [nexts, List.range_succ]
@[simp] theorem nexts_zero (t : Tex) : nexts t 0 = [] := rfl
@[simp] theorem nexts_length (t : Tex) (k : Nat) : (nexts t k).length = k := by simp [nexts]
theorem TexOk.at_good {t : Tex} (h : TexOk t) (x y : Int) : (t.at x y).good = true := List.all_eq_true.1 h.g _ (List.mem_of_getElem? (h.get x y))
theorem half_c {R : Env} (h : N103 R) (t : Tex) (ok : TexOk t) : R.Pc 103 [.agg t.row] (.agg t.half.row) :=
  h.o103.enter 200 rfl fun X bb hfit hp => by
    have hs := tchk_in ok.s
    have hs2 : t.side.tdiv 2 = t.side / 2 := Int.tdiv_eq_ediv_of_nonneg (by omega)
    generalize hh : t.side / 2 = s at hs2
    have hs8 : 0 ≤ s ∧ s ≤ 8 := by omega
    have hsq : 0 ≤ s * s ∧ s * s ≤ 8 * 8 := ⟨Int.mul_nonneg hs8.1 hs8.1, Int.mul_le_mul hs8.2 hs8.2 hs8.1 (by decide)⟩
    refine sh ?_
    rw [hs2]
    refine wI ?_
    refine sh ?_
    refine lPa 200 (fun i : Nat => (i : Int) ≤ s * s) (fun i => ⟨[(1, .loc 0 1 0 0), (2, .loc 1 1 0 0), (3, .loc 2 1 0 0), (21, .int .i64 (s * s)), (22, .int .i64 i)], [(3, .arr (R.ty 13) 3 (slc3 (nexts t i))), (2, .var (R.ty 12) [.int .i64 s, .osl 3 i]), (1, .var (R.ty 12) [.int .i64 0, .nils]), (0, .var (R.ty 12) t.row)], 4⟩) (fun i => (s * s).toNat - i) (0) ?_ ?_
    · exact hsq.1
    · intro i hi
      dsimp only
      refine sh ?_
      refine cS (fun h1 => ?_) (fun h1 => ?_)
      · have hsp : 0 < s := by
          rcases Int.lt_or_le 0 s with h | h
          · exact h
          · have : s = 0 := by omega
            rw [this] at h1
            omega
        have hm := Int.emod_nonneg (i : Int) (show s ≠ 0 by omega)
        have hm2 := Int.emod_lt_of_pos (i : Int) hsp
        have hd := Int.ediv_nonneg (show 0 ≤ (i : Int) by omega) (show 0 ≤ s by omega)
        have hd2 : (i : Int) / s < s := Int.ediv_lt_of_lt_mul hsp h1
        refine sh ?_
        rw [Int.tmod_eq_emod_of_nonneg (by omega)]
        refine wI ?_
        refine sh ?_
        rw [Int.tdiv_eq_ediv_of_nonneg (by omega)]
        refine wI ?_
        refine sh ?_
        refine ICall.pure h.n104.o104.hb (at_c h.n104 t ok _ _ (by simp only [inI]; omega) (by simp only [inI]; omega)) rfl ?_
        refine sh ?_
        refine ICall.pure h.n104.o104.hb (at_c h.n104 t ok _ _ (by simp only [inI]; omega) (by simp only [inI]; omega)) rfl ?_
        refine sh ?_
        refine ICall.pure h.n104.o104.hb (at_c h.n104 t ok _ _ (by simp only [inI]; omega) (by simp only [inI]; omega)) rfl ?_
        refine sh ?_
        refine ICall.pure h.n104.o104.hb (at_c h.n104 t ok _ _ (by simp only [inI]; omega) (by simp only [inI]; omega)) rfl ?_
        have g1 := (T3.good_iff _).1 (ok.at_good (2 * (i % s)) (2 * (i / s)))
        have g2 := (T3.good_iff _).1 (ok.at_good (2 * (i % s) + 1) (2 * (i / s)))
        have g3 := (T3.good_iff _).1 (ok.at_good (2 * (i % s)) (2 * (i / s) + 1))
        have g4 := (T3.good_iff _).1 (ok.at_good (2 * (i % s) + 1) (2 * (i / s) + 1))
        have hn : t.next s i = avg (t.at (2 * (i % s)) (2 * (i / s))) (t.at (2 * (i % s) + 1) (2 * (i / s))) (t.at (2 * (i % s)) (2 * (i / s) + 1)) (t.at (2 * (i % s) + 1) (2 * (i / s) + 1)) := rfl
        generalize t.at (2 * (i % s)) (2 * (i / s)) = a at g1 hn ⊢
        generalize t.at (2 * (i % s) + 1) (2 * (i / s)) = b at g2 hn ⊢
        generalize t.at (2 * (i % s)) (2 * (i / s) + 1) = c at g3 hn ⊢
        generalize t.at (2 * (i % s) + 1) (2 * (i / s) + 1) = d at g4 hn ⊢
        refine sh ?_
        refine ILoop.one 100 ?_
        refine sh ?_
        refine acnd_t (by decide) ?_
        refine sh ?_
        rw [Int.tdiv_eq_ediv_of_nonneg (by omega)]
        refine wI ?_
        refine sh ?_
        refine ILoop.one 100 ?_
        refine sh ?_
        refine acnd_t (by decide) ?_
        refine sh ?_
        rw [Int.tdiv_eq_ediv_of_nonneg (by omega)]
        refine wI ?_
        refine sh ?_
        refine ILoop.one 100 ?_
        refine sh ?_
        refine acnd_t (by decide) ?_
        refine sh ?_
        rw [Int.tdiv_eq_ediv_of_nonneg (by omega)]
        refine wI ?_
        refine sh ?_
        refine ILoop.one 100 ?_
        refine sh ?_
        refine acnd_f (by decide) ?_
        refine sh ?_
        refine nX (i + 1) ?_ ?_ ⟨_, hp, rfl⟩ ?_ ?_
        · omega
        · omega
        · all_goals repeat' (first | exact True.intro | refine And.intro ?_ ?_ | (intro _u; clear _u) | (with_reducible first | refine eM ?_ ?_ | refine eF ?_ ?_ ?_ | refine eN ?_ | refine eL ?_ ?_ ?_ | refine eA ?_ ?_ | refine IWk.mk ⟨_, hp, rfl⟩ ?_ ?_) | refine IWk.mk ⟨_, hp, rfl⟩ ?_ ?_)
          all_goals first | with_reducible rfl | omega | exact Or.inl (by decide) | (simp; done) | rfl | skip
        · all_goals repeat' (first | exact True.intro | refine And.intro ?_ ?_ | (intro _u; clear _u) | (with_reducible first | refine eM ?_ ?_ | refine eF ?_ ?_ ?_ | refine eN ?_ | refine eL ?_ ?_ ?_ | refine eA ?_ ?_ | refine IWk.mk ⟨_, hp, rfl⟩ ?_ ?_) | refine IWk.mk ⟨_, hp, rfl⟩ ?_ ?_)
          all_goals first | with_reducible rfl | omega | exact Or.inl (by decide) | (simp; done) | rfl | skip
          rw [nexts_succ, hh, hn]
          simp [slc3, t3, avg]
      · have e : t.half = ⟨s, nexts t i⟩ := by
          unfold Tex.half
          rw [hh, show (s * s).toNat = i by omega]
        rw [e]
        refine sh ?_
        exact rT
def halfs (t : Tex) : Tex × Int := if tchk t ≠ 0 then (⟨0, []⟩, tchk t) else if t.side = 1 then (⟨0, []⟩, 2) else (t.half, 0)
theorem halfs_c {R : Env} (h : N91 R) (t : Tex) (hl : t.t.length ≤ 1073741824) : R.Pc 91 [.agg t.row] (.tup [.agg (halfs t).1.row, .int .i64 (halfs t).2]) :=
  h.o91.enter 100 rfl fun X bb hfit hp => by
    refine sh ?_
    refine ICall.pure h.n84.o84.hb (tchk_c h.n84 t hl) rfl ?_
    generalize hq : halfs t = q
    refine sh ?_
    refine cS (fun h1 => ?_) (fun h1 => ?_)
    · rw [halfs, if_pos h1] at hq
      subst hq
      refine sh ?_
      exact rT
    · have ok := tchk_ok h1
      rw [halfs, if_neg (by simpa using h1)] at hq
      refine sh ?_
      refine cS (fun h2 => ?_) (fun h2 => ?_)
      · rw [if_pos h2] at hq
        subst hq
        refine sh ?_
        exact rT
      · rw [if_neg h2] at hq
        subst hq
        refine sh ?_
        refine ICall.pure h.n103.o103.hb (half_c h.n103 t ok) rfl ?_
        refine sh ?_
        exact rT
end Go.UM

namespace Go.UM
open Go.AM
set_option maxRecDepth 4000
theorem T3.bad_a {y : T3} (h : y.a < 0 ∨ 255 < y.a) : y.good = false := by rw [Bool.eq_false_iff, ne_eq, T3.good_iff]; omega
theorem T3.bad_b {y : T3} (h : y.b < 0 ∨ 255 < y.b) : y.good = false := by rw [Bool.eq_false_iff, ne_eq, T3.good_iff]; omega
theorem T3.bad_c {y : T3} (h : y.c < 0 ∨ 255 < y.c) : y.good = false := by rw [Bool.eq_false_iff, ne_eq, T3.good_iff]; omega
theorem rtchk_c {R : Env} (h : N85 R) (x : Tex) (hl : x.t.length ≤ 1073741824) : R.Pc 85 [.agg x.row] (.int .i64 (tchk x)) :=
  h.o85.enter 200 rfl fun X bb hfit hp => by
    generalize hq : tchk x = q
    by_cases hin : x.side ∈ sides
    · have h2 := tchk_in hin
      have hsq : x.side * x.side ≤ 256 ∧ 0 ≤ x.side * x.side := by
        rcases h2 with h | h | h | h | h <;> rw [h] <;> decide
      refine sh ?_
      refine cS (fun h1 => ?_) (fun h1 => ?_)
      · refine sh ?_
        refine cS (fun h3 => ?_) (fun h3 => ?_)
        · refine sh ?_
          refine cS (fun h4 => ?_) (fun h4 => ?_)
          · refine sh ?_
            refine cS (fun h5 => ?_) (fun h5 => ?_)
            · refine sh ?_
              refine acnd_f (by (simp; omega)) ?_
              refine sh ?_
              refine cS (fun h6 => ?_) (fun h6 => ?_)
              · rw [tchk, if_pos (.inr h6)] at hq
                subst hq
                refine sh ?_
                exact rT
              · refine sh ?_
                refine lPa 200 (fun i : Nat => i ≤ x.t.length ∧ (x.t.take i).all T3.good = true) (fun i => ⟨[(1, .loc 0 1 0 0), (3, .int .i64 i)], [(0, .var (R.ty 12) x.row)], 1⟩) (fun i => x.t.length - i) (0) ?_ ?_
                · exact ⟨Nat.zero_le _, rfl⟩
                · intro i hi
                  dsimp only
                  refine sh ?_
                  refine cS (fun h7 => ?_) (fun h7 => ?_)
                  · obtain ⟨y, hy⟩ : ∃ u, x.t[i]? = some u := ⟨_, List.getElem?_eq_getElem (by omega)⟩
                    have hym := List.mem_of_getElem? hy
                    have hyg := T3.good_iff y
                    refine sh ?_
                    refine ILoop.one 100 ?_
                    refine sh ?_
                    refine acnd_t (by decide) ?_
                    refine sh ?_
                    refine eget_map hy ?_
                    refine sh ?_
                    refine cS (fun g1 => ?_) (fun g1 => ?_)
                    · rw [tchk_bad hym (T3.bad_a (.inl g1))] at hq
                      subst hq
                      refine sh ?_
                      exact rT
                    · refine sh ?_
                      refine eget_map hy ?_
                      refine sh ?_
                      refine cS (fun g2 => ?_) (fun g2 => ?_)
                      · rw [tchk_bad hym (T3.bad_a (.inr g2))] at hq
                        subst hq
                        refine sh ?_
                        exact rT
                      · refine sh ?_
                        refine ILoop.one 100 ?_
                        refine sh ?_
                        refine acnd_t (by decide) ?_
                        refine sh ?_
                        refine eget_map hy ?_
                        refine sh ?_
                        refine cS (fun g3 => ?_) (fun g3 => ?_)
                        · rw [tchk_bad hym (T3.bad_b (.inl g3))] at hq
                          subst hq
                          refine sh ?_
                          exact rT
                        · refine sh ?_
                          refine eget_map hy ?_
                          refine sh ?_
                          refine cS (fun g4 => ?_) (fun g4 => ?_)
                          · rw [tchk_bad hym (T3.bad_b (.inr g4))] at hq
                            subst hq
                            refine sh ?_
                            exact rT
                          · refine sh ?_
                            refine ILoop.one 100 ?_
                            refine sh ?_
                            refine acnd_t (by decide) ?_
                            refine sh ?_
                            refine eget_map hy ?_
                            refine sh ?_
                            refine cS (fun g5 => ?_) (fun g5 => ?_)
                            · rw [tchk_bad hym (T3.bad_c (.inl g5))] at hq
                              subst hq
                              refine sh ?_
                              exact rT
                            · refine sh ?_
                              refine eget_map hy ?_
                              refine sh ?_
                              refine cS (fun g6 => ?_) (fun g6 => ?_)
                              · rw [tchk_bad hym (T3.bad_c (.inr g6))] at hq
                                subst hq
                                refine sh ?_
                                exact rT
                              · refine sh ?_
                                refine ILoop.one 100 ?_
                                refine sh ?_
                                refine acnd_f (by decide) ?_
                                refine sh ?_
                                refine nXa (i + 1) ?_ ?_
                                · refine ⟨by omega, ?_⟩
                                  rw [all_take_succ hy, hi.2, Bool.true_and, hyg]
                                  omega
                                · omega
                  · have hz : ¬ (x.side ∉ sides ∨ (x.t.length : Int) ≠ x.side * x.side) := by simp [hin, h6]
                    rw [tchk, if_neg hz, if_pos] at hq
                    · subst hq
                      refine sh ?_
                      exact rT
                    · have := hi.2
                      rwa [List.take_of_length_le (by omega)] at this
            · refine sh ?_
              refine cS (fun h6 => ?_) (fun h6 => ?_)
              · rw [tchk, if_pos (.inr h6)] at hq
                subst hq
                refine sh ?_
                exact rT
              · refine sh ?_
                refine lPa 200 (fun i : Nat => i ≤ x.t.length ∧ (x.t.take i).all T3.good = true) (fun i => ⟨[(1, .loc 0 1 0 0), (3, .int .i64 i)], [(0, .var (R.ty 12) x.row)], 1⟩) (fun i => x.t.length - i) (0) ?_ ?_
                · exact ⟨Nat.zero_le _, rfl⟩
                · intro i hi
                  dsimp only
                  refine sh ?_
                  refine cS (fun h7 => ?_) (fun h7 => ?_)
                  · obtain ⟨y, hy⟩ : ∃ u, x.t[i]? = some u := ⟨_, List.getElem?_eq_getElem (by omega)⟩
                    have hym := List.mem_of_getElem? hy
                    have hyg := T3.good_iff y
                    refine sh ?_
                    refine ILoop.one 100 ?_
                    refine sh ?_
                    refine acnd_t (by decide) ?_
                    refine sh ?_
                    refine eget_map hy ?_
                    refine sh ?_
                    refine cS (fun g1 => ?_) (fun g1 => ?_)
                    · rw [tchk_bad hym (T3.bad_a (.inl g1))] at hq
                      subst hq
                      refine sh ?_
                      exact rT
                    · refine sh ?_
                      refine eget_map hy ?_
                      refine sh ?_
                      refine cS (fun g2 => ?_) (fun g2 => ?_)
                      · rw [tchk_bad hym (T3.bad_a (.inr g2))] at hq
                        subst hq
                        refine sh ?_
                        exact rT
                      · refine sh ?_
                        refine ILoop.one 100 ?_
                        refine sh ?_
                        refine acnd_t (by decide) ?_
                        refine sh ?_
                        refine eget_map hy ?_
                        refine sh ?_
                        refine cS (fun g3 => ?_) (fun g3 => ?_)
                        · rw [tchk_bad hym (T3.bad_b (.inl g3))] at hq
                          subst hq
                          refine sh ?_
                          exact rT
                        · refine sh ?_
                          refine eget_map hy ?_
                          refine sh ?_
                          refine cS (fun g4 => ?_) (fun g4 => ?_)
                          · rw [tchk_bad hym (T3.bad_b (.inr g4))] at hq
                            subst hq
                            refine sh ?_
                            exact rT
                          · refine sh ?_
                            refine ILoop.one 100 ?_
                            refine sh ?_
                            refine acnd_t (by decide) ?_
                            refine sh ?_
                            refine eget_map hy ?_
                            refine sh ?_
                            refine cS (fun g5 => ?_) (fun g5 => ?_)
                            · rw [tchk_bad hym (T3.bad_c (.inl g5))] at hq
                              subst hq
                              refine sh ?_
                              exact rT
                            · refine sh ?_
                              refine eget_map hy ?_
                              refine sh ?_
                              refine cS (fun g6 => ?_) (fun g6 => ?_)
                              · rw [tchk_bad hym (T3.bad_c (.inr g6))] at hq
                                subst hq
                                refine sh ?_
                                exact rT
                              · refine sh ?_
                                refine ILoop.one 100 ?_
                                refine sh ?_
                                refine acnd_f (by decide) ?_
                                refine sh ?_
                                refine nXa (i + 1) ?_ ?_
                                · refine ⟨by omega, ?_⟩
                                  rw [all_take_succ hy, hi.2, Bool.true_and, hyg]
                                  omega
                                · omega
                  · have hz : ¬ (x.side ∉ sides ∨ (x.t.length : Int) ≠ x.side * x.side) := by simp [hin, h6]
                    rw [tchk, if_neg hz, if_pos] at hq
                    · subst hq
                      refine sh ?_
                      exact rT
                    · have := hi.2
                      rwa [List.take_of_length_le (by omega)] at this
          · refine sh ?_
            refine cS (fun h6 => ?_) (fun h6 => ?_)
            · rw [tchk, if_pos (.inr h6)] at hq
              subst hq
              refine sh ?_
              exact rT
            · refine sh ?_
              refine lPa 200 (fun i : Nat => i ≤ x.t.length ∧ (x.t.take i).all T3.good = true) (fun i => ⟨[(1, .loc 0 1 0 0), (3, .int .i64 i)], [(0, .var (R.ty 12) x.row)], 1⟩) (fun i => x.t.length - i) (0) ?_ ?_
              · exact ⟨Nat.zero_le _, rfl⟩
              · intro i hi
                dsimp only
                refine sh ?_
                refine cS (fun h7 => ?_) (fun h7 => ?_)
                · obtain ⟨y, hy⟩ : ∃ u, x.t[i]? = some u := ⟨_, List.getElem?_eq_getElem (by omega)⟩
                  have hym := List.mem_of_getElem? hy
                  have hyg := T3.good_iff y
                  refine sh ?_
                  refine ILoop.one 100 ?_
                  refine sh ?_
                  refine acnd_t (by decide) ?_
                  refine sh ?_
                  refine eget_map hy ?_
                  refine sh ?_
                  refine cS (fun g1 => ?_) (fun g1 => ?_)
                  · rw [tchk_bad hym (T3.bad_a (.inl g1))] at hq
                    subst hq
                    refine sh ?_
                    exact rT
                  · refine sh ?_
                    refine eget_map hy ?_
                    refine sh ?_
                    refine cS (fun g2 => ?_) (fun g2 => ?_)
                    · rw [tchk_bad hym (T3.bad_a (.inr g2))] at hq
                      subst hq
                      refine sh ?_
                      exact rT
                    · refine sh ?_
                      refine ILoop.one 100 ?_
                      refine sh ?_
                      refine acnd_t (by decide) ?_
                      refine sh ?_
                      refine eget_map hy ?_
                      refine sh ?_
                      refine cS (fun g3 => ?_) (fun g3 => ?_)
                      · rw [tchk_bad hym (T3.bad_b (.inl g3))] at hq
                        subst hq
                        refine sh ?_
                        exact rT
                      · refine sh ?_
                        refine eget_map hy ?_
                        refine sh ?_
                        refine cS (fun g4 => ?_) (fun g4 => ?_)
                        · rw [tchk_bad hym (T3.bad_b (.inr g4))] at hq
                          subst hq
                          refine sh ?_
                          exact rT
                        · refine sh ?_
                          refine ILoop.one 100 ?_
                          refine sh ?_
                          refine acnd_t (by decide) ?_
                          refine sh ?_
                          refine eget_map hy ?_
                          refine sh ?_
                          refine cS (fun g5 => ?_) (fun g5 => ?_)
                          · rw [tchk_bad hym (T3.bad_c (.inl g5))] at hq
                            subst hq
                            refine sh ?_
                            exact rT
                          · refine sh ?_
                            refine eget_map hy ?_
                            refine sh ?_
                            refine cS (fun g6 => ?_) (fun g6 => ?_)
                            · rw [tchk_bad hym (T3.bad_c (.inr g6))] at hq
                              subst hq
                              refine sh ?_
                              exact rT
                            · refine sh ?_
                              refine ILoop.one 100 ?_
                              refine sh ?_
                              refine acnd_f (by decide) ?_
                              refine sh ?_
                              refine nXa (i + 1) ?_ ?_
                              · refine ⟨by omega, ?_⟩
                                rw [all_take_succ hy, hi.2, Bool.true_and, hyg]
                                omega
                              · omega
                · have hz : ¬ (x.side ∉ sides ∨ (x.t.length : Int) ≠ x.side * x.side) := by simp [hin, h6]
                  rw [tchk, if_neg hz, if_pos] at hq
                  · subst hq
                    refine sh ?_
                    exact rT
                  · have := hi.2
                    rwa [List.take_of_length_le (by omega)] at this
        · refine sh ?_
          refine cS (fun h6 => ?_) (fun h6 => ?_)
          · rw [tchk, if_pos (.inr h6)] at hq
            subst hq
            refine sh ?_
            exact rT
          · refine sh ?_
            refine lPa 200 (fun i : Nat => i ≤ x.t.length ∧ (x.t.take i).all T3.good = true) (fun i => ⟨[(1, .loc 0 1 0 0), (3, .int .i64 i)], [(0, .var (R.ty 12) x.row)], 1⟩) (fun i => x.t.length - i) (0) ?_ ?_
            · exact ⟨Nat.zero_le _, rfl⟩
            · intro i hi
              dsimp only
              refine sh ?_
              refine cS (fun h7 => ?_) (fun h7 => ?_)
              · obtain ⟨y, hy⟩ : ∃ u, x.t[i]? = some u := ⟨_, List.getElem?_eq_getElem (by omega)⟩
                have hym := List.mem_of_getElem? hy
                have hyg := T3.good_iff y
                refine sh ?_
                refine ILoop.one 100 ?_
                refine sh ?_
                refine acnd_t (by decide) ?_
                refine sh ?_
                refine eget_map hy ?_
                refine sh ?_
                refine cS (fun g1 => ?_) (fun g1 => ?_)
                · rw [tchk_bad hym (T3.bad_a (.inl g1))] at hq
                  subst hq
                  refine sh ?_
                  exact rT
                · refine sh ?_
                  refine eget_map hy ?_
                  refine sh ?_
                  refine cS (fun g2 => ?_) (fun g2 => ?_)
                  · rw [tchk_bad hym (T3.bad_a (.inr g2))] at hq
                    subst hq
                    refine sh ?_
                    exact rT
                  · refine sh ?_
                    refine ILoop.one 100 ?_
                    refine sh ?_
                    refine acnd_t (by decide) ?_
                    refine sh ?_
                    refine eget_map hy ?_
                    refine sh ?_
                    refine cS (fun g3 => ?_) (fun g3 => ?_)
                    · rw [tchk_bad hym (T3.bad_b (.inl g3))] at hq
                      subst hq
                      refine sh ?_
                      exact rT
                    · refine sh ?_
                      refine eget_map hy ?_
                      refine sh ?_
                      refine cS (fun g4 => ?_) (fun g4 => ?_)
                      · rw [tchk_bad hym (T3.bad_b (.inr g4))] at hq
                        subst hq
                        refine sh ?_
                        exact rT
                      · refine sh ?_
                        refine ILoop.one 100 ?_
                        refine sh ?_
                        refine acnd_t (by decide) ?_
                        refine sh ?_
                        refine eget_map hy ?_
                        refine sh ?_
                        refine cS (fun g5 => ?_) (fun g5 => ?_)
                        · rw [tchk_bad hym (T3.bad_c (.inl g5))] at hq
                          subst hq
                          refine sh ?_
                          exact rT
                        · refine sh ?_
                          refine eget_map hy ?_
                          refine sh ?_
                          refine cS (fun g6 => ?_) (fun g6 => ?_)
                          · rw [tchk_bad hym (T3.bad_c (.inr g6))] at hq
                            subst hq
                            refine sh ?_
                            exact rT
                          · refine sh ?_
                            refine ILoop.one 100 ?_
                            refine sh ?_
                            refine acnd_f (by decide) ?_
                            refine sh ?_
                            refine nXa (i + 1) ?_ ?_
                            · refine ⟨by omega, ?_⟩
                              rw [all_take_succ hy, hi.2, Bool.true_and, hyg]
                              omega
                            · omega
              · have hz : ¬ (x.side ∉ sides ∨ (x.t.length : Int) ≠ x.side * x.side) := by simp [hin, h6]
                rw [tchk, if_neg hz, if_pos] at hq
                · subst hq
                  refine sh ?_
                  exact rT
                · have := hi.2
                  rwa [List.take_of_length_le (by omega)] at this
      · refine sh ?_
        refine cS (fun h6 => ?_) (fun h6 => ?_)
        · rw [tchk, if_pos (.inr h6)] at hq
          subst hq
          refine sh ?_
          exact rT
        · refine sh ?_
          refine lPa 200 (fun i : Nat => i ≤ x.t.length ∧ (x.t.take i).all T3.good = true) (fun i => ⟨[(1, .loc 0 1 0 0), (3, .int .i64 i)], [(0, .var (R.ty 12) x.row)], 1⟩) (fun i => x.t.length - i) (0) ?_ ?_
          · exact ⟨Nat.zero_le _, rfl⟩
          · intro i hi
            dsimp only
            refine sh ?_
            refine cS (fun h7 => ?_) (fun h7 => ?_)
            · obtain ⟨y, hy⟩ : ∃ u, x.t[i]? = some u := ⟨_, List.getElem?_eq_getElem (by omega)⟩
              have hym := List.mem_of_getElem? hy
              have hyg := T3.good_iff y
              refine sh ?_
              refine ILoop.one 100 ?_
              refine sh ?_
              refine acnd_t (by decide) ?_
              refine sh ?_
              refine eget_map hy ?_
              refine sh ?_
              refine cS (fun g1 => ?_) (fun g1 => ?_)
              · rw [tchk_bad hym (T3.bad_a (.inl g1))] at hq
                subst hq
                refine sh ?_
                exact rT
              · refine sh ?_
                refine eget_map hy ?_
                refine sh ?_
                refine cS (fun g2 => ?_) (fun g2 => ?_)
                · rw [tchk_bad hym (T3.bad_a (.inr g2))] at hq
                  subst hq
                  refine sh ?_
                  exact rT
                · refine sh ?_
                  refine ILoop.one 100 ?_
                  refine sh ?_
                  refine acnd_t (by decide) ?_
                  refine sh ?_
                  refine eget_map hy ?_
                  refine sh ?_
                  refine cS (fun g3 => ?_) (fun g3 => ?_)
                  · rw [tchk_bad hym (T3.bad_b (.inl g3))] at hq
                    subst hq
                    refine sh ?_
                    exact rT
                  · refine sh ?_
                    refine eget_map hy ?_
                    refine sh ?_
                    refine cS (fun g4 => ?_) (fun g4 => ?_)
                    · rw [tchk_bad hym (T3.bad_b (.inr g4))] at hq
                      subst hq
                      refine sh ?_
                      exact rT
                    · refine sh ?_
                      refine ILoop.one 100 ?_
                      refine sh ?_
                      refine acnd_t (by decide) ?_
                      refine sh ?_
                      refine eget_map hy ?_
                      refine sh ?_
                      refine cS (fun g5 => ?_) (fun g5 => ?_)
                      · rw [tchk_bad hym (T3.bad_c (.inl g5))] at hq
                        subst hq
                        refine sh ?_
                        exact rT
                      · refine sh ?_
                        refine eget_map hy ?_
                        refine sh ?_
                        refine cS (fun g6 => ?_) (fun g6 => ?_)
                        · rw [tchk_bad hym (T3.bad_c (.inr g6))] at hq
                          subst hq
                          refine sh ?_
                          exact rT
                        · refine sh ?_
                          refine ILoop.one 100 ?_
                          refine sh ?_
                          refine acnd_f (by decide) ?_
                          refine sh ?_
                          refine nXa (i + 1) ?_ ?_
                          · refine ⟨by omega, ?_⟩
                            rw [all_take_succ hy, hi.2, Bool.true_and, hyg]
                            omega
                          · omega
            · have hz : ¬ (x.side ∉ sides ∨ (x.t.length : Int) ≠ x.side * x.side) := by simp [hin, h6]
              rw [tchk, if_neg hz, if_pos] at hq
              · subst hq
                refine sh ?_
                exact rT
              · have := hi.2
                rwa [List.take_of_length_le (by omega)] at this
    · have hout : ¬ x.side = 1 ∧ ¬ x.side = 2 ∧ ¬ x.side = 4 ∧ ¬ x.side = 8 ∧ ¬ x.side = 16 := by simpa [sides] using hin
      refine sh ?_
      refine acnd_t (by simpa using hout.1) ?_
      refine sh ?_
      refine acnd_t (by simpa using hout.2.1) ?_
      refine sh ?_
      refine acnd_t (by simpa using hout.2.2.1) ?_
      refine sh ?_
      refine acnd_t (by simpa using hout.2.2.2.1) ?_
      refine sh ?_
      refine acnd_t (by simpa using hout.2.2.2.2) ?_
      rw [tchk, if_pos (.inl hin)] at hq
      subst hq
      refine sh ?_
      exact rT
end Go.UM

namespace Go.UM
open Go.AM
set_option maxRecDepth 4000
theorem same14_c {R : Env} (h : N89 R) (t : Tex) (hl : t.t.length ≤ 1073741824) : R.Pc 89 [.agg t.row, .agg t.row] (.bool true) :=
  h.o89.enter 200 rfl fun X bb hfit hp => by
    refine sh ?_
    refine acnd_f (by simp) ?_
    refine sh ?_
    refine acnd_f (by simp) ?_
    refine sh ?_
    refine lPa 100 (fun i : Nat => i ≤ t.t.length) (fun i => ⟨[(2, .loc 0 1 0 0), (3, .loc 1 1 0 0), (5, .int .i64 i)], [(0, .var (R.ty 12) t.row), (1, .var (R.ty 12) t.row)], 2⟩) (fun i => t.t.length - i) (0) ?_ ?_
    · exact Nat.zero_le _
    · intro i hi
      dsimp only
      refine sh ?_
      refine cS (fun h1 => ?_) (fun h1 => ?_)
      · obtain ⟨y, hy⟩ : ∃ u, t.t[i]? = some u := ⟨_, List.getElem?_eq_getElem (by omega)⟩
        refine sh ?_
        refine eget_map hy ?_
        refine sh ?_
        refine eget_map hy ?_
        refine sh ?_
        refine acnd_f (by simp) ?_
        refine sh ?_
        refine nXa (i + 1) ?_ ?_
        · omega
        · omega
      · refine sh ?_
        exact rT
end Go.UM

namespace Go.UM
open Go.AM
set_option maxRecDepth 4000
def lvF : Nat → Tex → List Tex → List Tex
  | 0, _, acc => acc
  | n + 1, t, acc => if 1 < t.side then lvF n t.half (acc ++ [t]) else acc ++ [t]
def lvs (t : Tex) : List Tex := lvF 16 t []
def slX (l : List Tex) : List (List AV) := l.map Tex.row
@[simp] theorem slX_length (l : List Tex) : (slX l).length = l.length := by simp [slX]
@[simp] theorem slX_append (a b : List Tex) : slX (a ++ b) = slX a ++ slX b := by simp [slX]
@[simp] theorem slX_NmL (l : List Tex) : NmL (slX l) := by simp [slX, Tex.row]
instance {l : List Tex} : LenOf (slX l) l.length := ⟨slX_length l⟩
theorem round88_c {R : Env} {l : Nat} {r : Loop} (hlp : IsLp R r c88lp) (x : Tex) (acc : List Tex) (hl : acc.length ≤ 100) :
    Wc (wayY R.P l r c88lp.ss) ([.agg x.row] ++ [.loc 0 1 0 0]) [(0, .var (R.ty 14) [.osl 1 acc.length]), (1, .arr (R.ty 12) 2 (slX acc))] (.bool true) [(0, .var (R.ty 14) [.osl 1 (acc.length + 1)]), (1, .arr (R.ty 12) 2 (slX (acc ++ [x])))] 2 :=
  Env.enterY hlp 100 2 rfl rfl rfl fun X bb hfit hp => by
    refine st ?_
    intro X hp
    refine sh ?_
    refine rM [0, 1] ?_
    all_goals repeat' (first | exact True.intro | refine And.intro ?_ ?_ | (intro _u; clear _u) | (with_reducible first | refine eM ?_ ?_ | refine eF ?_ ?_ ?_ | refine eN ?_ | refine eL ?_ ?_ ?_ | refine eA ?_ ?_ | refine IWk.mk ⟨_, hp, rfl⟩ ?_ ?_) | refine IWk.mk ⟨_, hp, rfl⟩ ?_ ?_)
    all_goals first | with_reducible rfl | omega | exact Or.inl (by decide) | (simp; done) | rfl | skip
    all_goals simp [slX, Tex.row]
theorem round88n_c {R : Env} {l : Nat} {r : Loop} (hlp : IsLp R r c88lp) (x : Tex) :
    Wc (wayY R.P l r c88lp.ss) ([.agg x.row] ++ [.loc 0 1 0 0]) [(0, .var (R.ty 14) [.nils])] (.bool true) [(0, .var (R.ty 14) [.osl 1 1]), (1, .arr (R.ty 12) 2 (slX [x]))] 2 :=
  Env.enterY hlp 100 1 rfl rfl rfl fun X bb hfit hp => by
    refine st ?_
    intro X hp
    refine st ?_
    intro _
    exact rM [0, 3]
theorem avg_good {a b c d : T3} (ha : a.good = true) (hb : b.good = true) (hc : c.good = true) (hd : d.good = true) : (avg a b c d).good = true := by
  rw [T3.good_iff] at *
  simp only [avg]
  omega
theorem TexOk.half {t : Tex} (ok : TexOk t) (h : 1 < t.side) : TexOk t.half := by
  have hs := tchk_in ok.s
  refine ⟨?_, ?_, ?_⟩
  · simp only [Tex.half, sides, List.mem_cons, List.not_mem_nil, or_false]; omega
  · simp only [Tex.half, nexts, List.length_map, List.length_range]
    rcases hs with h | h | h | h | h <;> rw [h] <;> decide
  · simp only [Tex.half, nexts, List.all_map, List.all_eq_true]
    intro i _
    exact avg_good (ok.at_good _ _) (ok.at_good _ _) (ok.at_good _ _) (ok.at_good _ _)
def lvL : Nat → Tex → Tex
  | 0, t => t
  | n + 1, t => if 1 < t.side then lvL n t.half else t
theorem half_side (t : Tex) : t.half.side = t.side / 2 := rfl
theorem side_le {t : Tex} (ok : TexOk t) : 1 ≤ t.side ∧ t.side ≤ 16 := by
  have := tchk_in ok.s
  omega
theorem levels1_c {R : Env} (h : N107 R) {l : Nat} {r : Loop} (hlp : IsLp R r c88lp) (t : Tex) (ok : TexOk t) :
    Wc (wayL R.P (R.ft 107) l r) [.clo (.lp l (tmOf r c88lp.ss)) [.loc 0 1 0 0], .loc 1 1 0 0] [(0, .var (R.ty 14) [.nils]), (1, .var (R.ty 12) t.row)] (.tup [])
      [(0, .var (R.ty 14) [.osl 2 (lvs t).length]), (1, .var (R.ty 12) (lvL 16 t).row), (2, .arr (R.ty 12) 2 (slX (lvs t)))] 3 :=
  h.o107.enterL 200 2 rfl rfl rfl fun X bb hfit hp hX => by
    have hst := side_le ok
    refine sh ?_
    refine lPa 100 (Sum.elim (fun _ : Unit => True) (fun s : Nat × Tex × List Tex => TexOk s.2.1 ∧ lvF s.1 s.2.1 s.2.2 = lvs t ∧ lvL s.1 s.2.1 = lvL 16 t ∧ s.2.1.side ≤ s.1 ∧ s.2.2.length + s.1 ≤ 16)) (Sum.elim (fun _ => ⟨[(0, .clo (.lp l (tmOf r c88lp.ss)) [.loc 0 1 0 0]), (1, .loc 1 1 0 0)], [(0, .var (R.ty 14) [.nils]), (1, .var (R.ty 12) t.row)], 2⟩) (fun s => ⟨[(0, .clo (.lp l (tmOf r c88lp.ss)) [.loc 0 1 0 0]), (1, .loc 1 1 0 0)], [(2, .arr (R.ty 12) 2 (slX s.2.2)), (0, .var (R.ty 14) [.osl 2 s.2.2.length]), (1, .var (R.ty 12) s.2.1.row)], 3⟩)) (Sum.elim (fun _ => 100) (fun s => s.1)) (.inl ()) ?_ ?_
    · trivial
    · rintro (i | ⟨n, u, acc⟩) hV
      · dsimp only [Sum.elim_inl]
        refine sh ?_
        refine cY false [0] hX hlp (round88n_c hlp t) ?_
        repeat ((intro _u; clear _u); first | refine eK ?_ | refine eP ?_)
        refine sh ?_
        refine cS (fun h1 => ?_) (fun h1 => ?_)
        · refine sh ?_
          refine ICall.pure h.n103.o103.hb (half_c h.n103 t ok) rfl ?_
          refine sh ?_
          refine nXa (.inr (15, t.half, [t])) ?_ ?_
          · refine ⟨ok.half h1, ?_, ?_, ?_, ?_⟩
            · show lvF 15 t.half [t] = lvF 16 t []
              rw [show lvF 16 t [] = if 1 < t.side then lvF 15 t.half ([] ++ [t]) else [] ++ [t] from rfl, if_pos h1]; rfl
            · show lvL 15 t.half = lvL 16 t
              rw [show lvL 16 t = if 1 < t.side then lvL 15 t.half else t from rfl, if_pos h1]
            · rw [half_side]; dsimp only; omega
            · simp
          · simp
        · have e1 : lvs t = [t] := by rw [lvs, lvF, if_neg (by simpa using h1)]; rfl
          have e2 : lvL 16 t = t := by rw [lvL, if_neg (by simpa using h1)]
          rw [e1, e2]
          refine sh ?_
          exact rM [0, 1, 2]
      · obtain ⟨h2, h3, h4, h5, h6⟩ := hV
        dsimp only [Sum.elim_inr] at h2 h3 h4 h5 h6 ⊢
        have hsu := side_le h2
        obtain ⟨m, rfl⟩ : ∃ m, n = m + 1 := ⟨n - 1, by omega⟩
        refine sh ?_
        refine cY false [0, 2] hX hlp (round88_c hlp u acc (by omega)) ?_
        repeat ((intro _u; clear _u); first | refine eK ?_ | refine eP ?_)
        refine sh ?_
        refine cS (fun h1 => ?_) (fun h1 => ?_)
        · refine sh ?_
          refine ICall.pure h.n103.o103.hb (half_c h.n103 u h2) rfl ?_
          refine sh ?_
          refine nXa (.inr (m, u.half, acc ++ [u])) ?_ ?_
          · refine ⟨h2.half h1, ?_, ?_, ?_, ?_⟩
            · rw [← h3, lvF, if_pos h1]
            · rw [← h4, lvL, if_pos h1]
            · rw [half_side]; dsimp only; omega
            · simp only [List.length_append, List.length_singleton]; omega
          · dsimp only [Sum.elim_inr]; omega
        · rw [← h3, ← h4, lvF, lvL, if_neg (by simpa using h1), if_neg (by simpa using h1)]
          refine sh ?_
          exact rM [0, 1, 2]
end Go.UM

namespace Go.UM
open Go.AM
set_option maxRecDepth 4000
def lvT (t : Tex) : List Tex × Int := if tchk t ≠ 0 then ([], tchk t) else (lvs t, 0)
theorem clone3x_c {R : Env} (h : N101 R) (l : List T3) (hl : l.length ≤ 1073741824) :
    R.Mc 101 [.isl 3 (slc3 l)] [] (.osl 0 l.length) [(0, .arr (R.ty 13) 3 (slc3 l))] 1 :=
  h.o101.enterM 60 0 rfl rfl rfl fun X b hfit hp => by
    refine sh ?_
    refine ANil.mk (fun hn => ?_) ?_
    · have : l = [] := by simpa [slc3] using hn
      subst this
      refine sh ?_
      exact rM [50]
    · refine sh ?_
      exact rM [0]
theorem clone3p_c {R : Env} (h : N101 R) (l : List T3) (hl : l.length ≤ 1073741824) : R.Pc 101 [.isl 3 (slc3 l)] (.isl 3 (slc3 l)) := (clone3x_c h l hl).pc fZ
theorem levels102_c {R : Env} (h : N102 R) (t : Tex) : R.Mc 102 [.agg t.row] [] (R.cl 107 [.loc 0 1 0 0]) [(0, .var (R.ty 12) t.row)] 1 :=
  h.o102.enterM 60 0 rfl rfl rfl fun X b hfit hp => by
    refine sh ?_
    exact rM [0]
theorem tlevels_c {R : Env} (h : N88 R) (t : Tex) (hl : t.t.length ≤ 1073741824) : R.Pc 88 [.agg t.row] (.tup [.isl 2 (slX (lvT t).1), .int .i64 (lvT t).2]) :=
  h.o88.enter 200 rfl fun X bb hfit hp => by
    generalize hq : lvT t = q
    unfold lvT at hq
    refine sh ?_
    refine ICall.pure h.n84.o84.hb (tchk_c h.n84 t hl) rfl ?_
    refine sh ?_
    refine cS (fun h1 => ?_) (fun h1 => ?_)
    · rw [if_pos h1] at hq
      subst hq
      refine sh ?_
      exact rT
    · rw [if_neg (by simpa using h1)] at hq
      have ok := tchk_ok (t := t) (by simpa using h1)
      refine sh ?_
      refine ICall.pure h.n101.o101.hb (clone3p_c h.n101 t.t hl) rfl ?_
      refine sh ?_
      refine cM false [] (levels102_c h.n102 t) ?_
      repeat ((intro _u; clear _u); first | refine eK ?_ | refine eP ?_)
      refine sh ?_
      refine cL (args0 := fun l tm => [.clo (.lp l tm) [.loc 0 1 0 0], .loc 1 1 0 0]) 100 false [1, 2] h.n102.n107.o107.hb (fun l r hlp => levels1_c h.n102.n107 hlp t ok) ?_
      repeat ((intro _u; clear _u); first | refine eK ?_ | refine eP ?_)
      subst hq
      refine sh ?_
      exact rT
end Go.UM

namespace Go.UM
open Go.AM
set_option maxRecDepth 4000
end Go.UM

namespace Go.UM
open Go.AM
set_option maxRecDepth 4000
def Tex.few (t : Tex) : Tex := ⟨t.side, t.t.take 260⟩
theorem few14_c {R : Env} (h : N81 R) (t : Tex) : R.Pc 81 [.agg t.row] (.agg t.few.row) :=
  h.o81.enter 60 rfl fun X bb hfit hp => by
    refine sh ?_
    refine aSb ?_
    rw [take_cap]
    refine sh ?_
    exact rT
def T2 : Tex := ⟨2, [⟨0, 0, 0⟩, ⟨1, 0, 0⟩, ⟨2, 0, 0⟩, ⟨4, 0, 0⟩]⟩
theorem works14_c {R : Env} (h : N86 R) : R.Pc 86 [] (.bool true) :=
  h.o86.enter 100 rfl fun X bb hfit hp => by
    have c1 := halfs_c h.n91 T2 (by decide)
    rw [show halfs T2 = (⟨1, [⟨2, 0, 0⟩]⟩, 0) by kernel_rfl] at c1
    refine sh ?_
    refine ICall.let [0] rfl hp rfl ?_
    repeat ((intro _u; clear _u); first | refine eZ ?_ | refine eZ ?_ (by simp; omega) | refine FrzC.drop ?_)
    refine sh ?_
    refine cM false [] (c1.mc h.n91.o91.hb) ?_
    repeat ((intro _u; clear _u); first | refine eK ?_ | refine eP ?_)
    refine sh ?_
    refine acnd_t (by decide) ?_
    refine sh ?_
    refine acnd_t (by decide) ?_
    refine sh ?_
    refine acnd_t (by decide) ?_
    refine sh ?_
    refine eget_map (show ([⟨2, 0, 0⟩] : List T3)[0]? = some ⟨2, 0, 0⟩ from rfl) ?_
    refine sh ?_
    exact rT
end Go.UM

namespace Go.UM
open Go.AM
set_option maxRecDepth 4000
def ch : Nat → Tex → List Tex
  | 0, _ => []
  | n + 1, t => t :: if 1 < t.side then ch n t.half else []
theorem lvF_ch : ∀ (n : Nat) (t : Tex) (acc : List Tex), lvF n t acc = acc ++ ch n t
  | 0, t, acc => by simp [lvF, ch]
  | n + 1, t, acc => by
    rw [lvF, ch]
    split
    · rw [lvF_ch n]; simp
    · rfl
theorem ch_len : ∀ (n : Nat) (t : Tex), (ch n t).length ≤ n
  | 0, t => by simp [ch]
  | n + 1, t => by
    rw [ch]
    split
    · have := ch_len n t.half; simp; omega
    · simp
end Go.UM

namespace Go.UM
open Go.AM
set_option maxRecDepth 4000
theorem tmod_fix {x n : Int} (hn : 0 < n) : (if x.tmod n < 0 then x.tmod n + n else x.tmod n) = x % n := by
  rw [Int.emod_eq_tmod]
  by_cases h : x.tmod n < 0
  · rw [if_pos h, if_neg, show (n.natAbs : Int) = n by omega]
    rintro (h3 | h3)
    · have := Int.tmod_nonneg n h3; omega
    · have := Int.tmod_eq_zero_of_dvd h3; omega
  · rw [if_neg h]
    by_cases h3 : 0 ≤ x ∨ n ∣ x
    · rw [if_pos h3]; simp
    · exfalso
      rw [not_or] at h3
      have h4 := Int.tmod_nonneg n (a := -x) (by omega)
      rw [Int.neg_tmod] at h4
      exact h3.2 (Int.dvd_of_tmod_eq_zero (by omega))
theorem mod105_c {R : Env} (h : N105 R) (x n : Int) (hn : 0 < n ∧ n ≤ 1000) : R.Pc 105 [.int .i64 x, .int .i64 n] (.int .i64 (x % n)) :=
  h.o105.enter 60 rfl fun X bb hfit hp => by
    rw [← tmod_fix hn.1]
    have h1 := Int.lt_tmod_of_pos x hn.1
    have h2 := Int.tmod_lt_of_pos x hn.1
    refine sh ?_
    refine cS (fun h3 => ?_) (fun h3 => ?_)
    · rw [if_pos h3]
      refine sh ?_
      exact rT
    · rw [if_neg (by simpa using h3)]
      refine sh ?_
      exact rT
theorem texel95_c {R : Env} (h : N95 R) (t : Tex) (ok : TexOk t) (x y : Int) : R.Pc 95 [.agg t.row, .int .i64 x, .int .i64 y] (.agg (t3 (t.at x y))) :=
  h.o95.enter 100 rfl fun X bb hfit hp => by
    have hb := ok.ix x y
    have hl := ok.l
    refine sh ?_
    refine ICall.pure h.n105.o105.hb (mod105_c h.n105 y t.side ⟨by omega, by omega⟩) rfl ?_
    refine sh ?_
    refine ICall.pure h.n105.o105.hb (mod105_c h.n105 x t.side ⟨by omega, by omega⟩) rfl ?_
    have hg := ok.get x y
    refine sh ?_
    refine eget_map hg ?_
    refine sh ?_
    exact rT
def tat (t : Tex) (x y : Int) : T3 × Int := if tchk t ≠ 0 then (⟨0, 0, 0⟩, tchk t) else (t.at x y, 0)
theorem at94_c {R : Env} (h : N94 R) (t : Tex) (hl : t.t.length ≤ 1073741824) (x y : Int) (hx : inI .i64 x) (hy : inI .i64 y) : R.Pc 94 [.agg t.row, .int .i64 x, .int .i64 y] (.tup [.agg (t3 (tat t x y).1), .int .i64 (tat t x y).2]) :=
  h.o94.enter 100 rfl fun X bb hfit hp => by
    generalize hq : tat t x y = q
    unfold tat at hq
    refine sh ?_
    refine ICall.pure h.n84.o84.hb (tchk_c h.n84 t hl) rfl ?_
    refine sh ?_
    refine cS (fun h1 => ?_) (fun h1 => ?_)
    · rw [if_pos h1] at hq
      subst hq
      refine sh ?_
      exact rT
    · rw [if_neg (by simpa using h1)] at hq
      have ok := tchk_ok (t := t) (by simpa using h1)
      refine sh ?_
      refine ICall.pure h.n104.o104.hb (at_c h.n104 t ok x y hx hy) rfl ?_
      subst hq
      refine sh ?_
      exact rT
theorem rtlevels_c {R : Env} (h : N93 R) (h92 : ∀ t : Tex, TexOk t → 1 < t.side → R.Pc 92 [.agg t.row] (.tup [.agg t.half.row, .int .i64 0])) (t : Tex) (hl : t.t.length ≤ 1073741824) : R.Pc 93 [.agg t.row] (.tup [.isl 2 (slX (lvT t).1), .int .i64 (lvT t).2]) :=
  h.o93.enter 200 rfl fun X bb hfit hp => by
    generalize hq : lvT t = q
    unfold lvT at hq
    refine sh ?_
    refine ICall.pure h.n85.o85.hb (rtchk_c h.n85 t hl) rfl ?_
    refine sh ?_
    refine cS (fun h1 => ?_) (fun h1 => ?_)
    · rw [if_pos h1] at hq
      subst hq
      refine sh ?_
      exact rT
    · rw [if_neg (by simpa using h1)] at hq
      have ok := tchk_ok (t := t) (by simpa using h1)
      refine sh ?_
      refine lPa 200 (fun s : Nat × Tex × List Tex => TexOk s.2.1 ∧ (s.2.2 ++ if 1 < s.2.1.side then lvF s.1 s.2.1.half [] else []) = lvs t ∧ s.2.1.side ≤ s.1 + 1 ∧ s.2.2.length + s.1 ≤ 16) (fun s => ⟨[(1, .loc 0 1 0 0), (5, .osl 1 s.2.2.length)], [(1, .arr (R.ty 12) 2 (slX s.2.2)), (0, .var (R.ty 12) s.2.1.row)], 2⟩) (fun s => s.1) ((15, t, [t])) ?_ ?_
      · have := side_le ok
        refine ⟨ok, ?_, by dsimp only; omega, by simp⟩
        show [t] ++ (if 1 < t.side then lvF 15 t.half [] else []) = lvF 16 t []
        rw [lvF_ch, lvF_ch, show ch 16 t = t :: if 1 < t.side then ch 15 t.half else [] from rfl]
        simp
      · rintro ⟨n, u, acc⟩ ⟨h2, h3, h4, h5⟩
        dsimp only at h2 h3 h4 h5 ⊢
        have hsu := side_le h2
        refine sh ?_
        refine cS (fun g1 => ?_) (fun g1 => ?_)
        · rw [if_pos g1] at h3
          refine sh ?_
          refine ICall.pure h.n92.o92.hb (h92 u h2 g1) rfl ?_
          obtain ⟨m, rfl⟩ : ∃ m, n = m + 1 := ⟨n - 1, by omega⟩
          refine sh ?_
          refine nX ((m, u.half, acc ++ [u.half])) ?_ ?_ ⟨_, hp, rfl⟩ ?_ ?_
          · refine ⟨h2.half g1, ?_, by rw [half_side]; dsimp only; omega, by simp only [List.length_append, List.length_singleton]; omega⟩
            rw [← h3]
            simp only [lvF_ch, List.nil_append]
            rw [ch]
            simp
          · dsimp only; omega
          · all_goals repeat' (first | exact True.intro | refine And.intro ?_ ?_ | (intro _u; clear _u) | (with_reducible first | refine eM ?_ ?_ | refine eF ?_ ?_ ?_ | refine eN ?_ | refine eL ?_ ?_ ?_ | refine eA ?_ ?_ | refine IWk.mk ⟨_, hp, rfl⟩ ?_ ?_) | refine IWk.mk ⟨_, hp, rfl⟩ ?_ ?_)
            all_goals first | with_reducible rfl | omega | exact Or.inl (by decide) | (simp; done) | rfl | skip
          · all_goals repeat' (first | exact True.intro | refine And.intro ?_ ?_ | (intro _u; clear _u) | (with_reducible first | refine eM ?_ ?_ | refine eF ?_ ?_ ?_ | refine eN ?_ | refine eL ?_ ?_ ?_ | refine eA ?_ ?_ | refine IWk.mk ⟨_, hp, rfl⟩ ?_ ?_) | refine IWk.mk ⟨_, hp, rfl⟩ ?_ ?_)
            all_goals first | with_reducible rfl | omega | exact Or.inl (by decide) | (simp; done) | rfl | skip
            simp [slX, Tex.row]
        · rw [if_neg (by simpa using g1)] at h3
          rw [List.append_nil] at h3
          subst h3
          subst hq
          refine sh ?_
          exact rT
end Go.UM

namespace Go.UM
open Go.AM
set_option maxRecDepth 4000
theorem good_bd {x : T3} (h : x.good = true) : (0 ≤ x.a ∧ x.a ≤ 255) ∧ (0 ≤ x.b ∧ x.b ≤ 255) ∧ 0 ≤ x.c ∧ x.c ≤ 255 := (T3.good_iff x).1 h
theorem next_eq {t : Tex} {s x y k : Nat} (hs : t.side = 2 * s) (hx : x < s) (hk : k = y * s + x) : t.next (t.side / 2) k = avg (t.at (2 * x) (2 * y)) (t.at (2 * x + 1) (2 * y)) (t.at (2 * x) (2 * y + 1)) (t.at (2 * x + 1) (2 * y + 1)) := by
  have h1 : t.side / 2 = (s : Int) := by omega
  have h2 : (k : Int) % (s : Int) = x := by
    rw [hk]; push_cast
    rw [Int.add_comm, Int.add_mul_emod_self_right, Int.emod_eq_of_lt (by omega) (by omega)]
  have h3 : (k : Int) / (s : Int) = y := by
    rw [hk]; push_cast
    rw [Int.add_comm, Int.add_mul_ediv_right _ _ (by omega), Int.ediv_eq_zero_of_lt (by omega) (by omega)]; omega
  unfold Tex.next
  rw [h1, h2, h3]
theorem slc3_nexts (t : Tex) (k : Nat) : slc3 (nexts t (k + 1)) = slc3 (nexts t k) ++ [t3 (t.next (t.side / 2) k)] := by rw [nexts_succ]; simp [slc3]
theorem rhalf92_c {R : Env} (h : N92 R) (t : Tex) (ok : TexOk t) (g : 1 < t.side) : R.Pc 92 [.agg t.row] (.tup [.agg t.half.row, .int .i64 0]) :=
  h.o92.enter 400 rfl fun X bb hfit hp => by
    have hl : t.t.length ≤ 1073741824 := by have := ok.l; have := side_le ok; have : t.side * t.side ≤ 16 * 16 := Int.mul_le_mul (by omega) (by omega) (by omega) (by omega); omega
    refine sh ?_
    refine ICall.pure h.n85.o85.hb (rtchk_c h.n85 t hl) rfl ?_
    refine sh ?_
    refine acnd_f (by (simp [ok.chk])) ?_
    refine sh ?_
    refine acnd_f (by (simp; omega)) ?_
    obtain ⟨s, hs⟩ : ∃ s : Nat, t.side = 2 * s := by
      have := tchk_in ok.s
      exact ⟨(t.side / 2).toNat, by omega⟩
    have hs8 : 1 ≤ s ∧ s ≤ 8 := by have := side_le ok; omega
    have hq : t.side.tdiv 2 = (s : Int) := by rw [hs, Int.tdiv_eq_ediv_of_nonneg (by omega)]; omega
    refine sh ?_
    refine ILoop.inv 300 (Sum.elim (fun _ : Unit => True) (fun y : Nat => 1 ≤ y ∧ y ≤ s)) (Sum.elim (fun _ => ⟨[(1, .loc 0 1 0 0), (2, .loc 1 1 0 0), (5, .loc 2 1 0 0), (6, .int .i64 0)], [(2, .var (R.ty 12) [.int .i64 s, .nils]), (1, .var (R.ty 12) [.int .i64 0, .nils]), (0, .var (R.ty 12) t.row)], 3⟩) (fun y => ⟨[(1, .loc 0 1 0 0), (2, .loc 1 1 0 0), (5, .loc 2 1 0 0), (6, .int .i64 y)], [(3, .arr (R.ty 13) 3 (slc3 (nexts t (y * s)))), (2, .var (R.ty 12) [.int .i64 s, .osl 3 (y * s)]), (1, .var (R.ty 12) [.int .i64 0, .nils]), (0, .var (R.ty 12) t.row)], 4⟩)) (Sum.elim (fun _ => 100) (fun y => s - y)) (.inl ()) ?_ ⟨⟨_, hp, rfl⟩, ?_, ?_⟩ ?_
    · trivial
    · all_goals repeat' (first | exact True.intro | refine And.intro ?_ ?_ | (intro _u; clear _u) | (with_reducible first | refine eM ?_ ?_ | refine eF ?_ ?_ ?_ | refine eN ?_ | refine eL ?_ ?_ ?_ | refine eA ?_ ?_ | refine IWk.mk ⟨_, hp, rfl⟩ ?_ ?_) | refine IWk.mk ⟨_, hp, rfl⟩ ?_ ?_)
      all_goals first | with_reducible rfl | omega | exact Or.inl (by decide) | (simp; done) | rfl | skip
    · all_goals repeat' (first | exact True.intro | refine And.intro ?_ ?_ | (intro _u; clear _u) | (with_reducible first | refine eM ?_ ?_ | refine eF ?_ ?_ ?_ | refine eN ?_ | refine eL ?_ ?_ ?_ | refine eA ?_ ?_ | refine IWk.mk ⟨_, hp, rfl⟩ ?_ ?_) | refine IWk.mk ⟨_, hp, rfl⟩ ?_ ?_)
      all_goals first | with_reducible rfl | omega | exact Or.inl (by decide) | (simp; done) | rfl | skip
      all_goals first | exact hq | (rw [hq]) | skip
    · rintro (i | y) hV
      · dsimp only [Sum.elim_inl]
        refine sh ?_
        refine acnd_t (by (simp; omega)) ?_
        refine sh ?_
        refine lPa 300 (Sum.elim (fun _ : Unit => True) (fun x : Nat => 1 ≤ x ∧ x ≤ s)) (Sum.elim (fun _ => ⟨[(1, .loc 0 1 0 0), (2, .loc 1 1 0 0), (5, .loc 2 1 0 0), (6, .int .i64 0), (7, .int .i64 0)], [(2, .var (R.ty 12) [.int .i64 s, .nils]), (1, .var (R.ty 12) [.int .i64 0, .nils]), (0, .var (R.ty 12) t.row)], 3⟩) (fun x => ⟨[(1, .loc 0 1 0 0), (2, .loc 1 1 0 0), (5, .loc 2 1 0 0), (6, .int .i64 0), (7, .int .i64 x)], [(3, .arr (R.ty 13) 3 (slc3 (nexts t x))), (2, .var (R.ty 12) [.int .i64 s, .osl 3 x]), (1, .var (R.ty 12) [.int .i64 0, .nils]), (0, .var (R.ty 12) t.row)], 4⟩)) (Sum.elim (fun _ => 100) (fun x => s - x)) (.inl ()) ?_ ?_
        · trivial
        · rintro (i | x) hV
          · dsimp only [Sum.elim_inl]
            refine sh ?_
            refine acnd_t (by (simp; omega)) ?_
            have zm00 : Int.tmod 0 2 = 0 := by decide
            have zd00 : Int.tdiv 0 2 = 0 := by decide
            have zm10 : Int.tmod (0 + 1) 2 = 1 := by decide
            have zd10 : Int.tdiv (0 + 1) 2 = 0 := by decide
            have zm01 : Int.tmod (0 + 1 + 1) 2 = 0 := by decide
            have zd01 : Int.tdiv (0 + 1 + 1) 2 = 1 := by decide
            have zm11 : Int.tmod (0 + 1 + 1 + 1) 2 = 1 := by decide
            have zd11 : Int.tdiv (0 + 1 + 1 + 1) 2 = 1 := by decide
            refine sh ?_
            refine ILoop.one 100 ?_
            refine sh ?_
            refine acnd_t (by rfl) ?_
            refine sh ?_
            refine ICall.pure h.n95.o95.hb (texel95_c h.n95 t ok _ _) rfl ?_
            generalize hp0 : t.at _ _ = p0
            have gp0 := good_bd (by rw [← hp0]; exact ok.at_good _ _ : p0.good = true)
            refine sh ?_
            refine ILoop.one 100 ?_
            refine sh ?_
            refine acnd_t (by rfl) ?_
            refine sh ?_
            refine ILoop.one 100 ?_
            refine sh ?_
            refine acnd_t (by rfl) ?_
            refine sh ?_
            refine ILoop.one 100 ?_
            refine sh ?_
            refine acnd_t (by rfl) ?_
            refine sh ?_
            refine ILoop.one 100 ?_
            refine sh ?_
            refine acnd_f (by rfl) ?_
            refine sh ?_
            refine ILoop.one 100 ?_
            refine sh ?_
            refine acnd_t (by rfl) ?_
            refine sh ?_
            refine ICall.pure h.n95.o95.hb (texel95_c h.n95 t ok _ _) rfl ?_
            generalize hp1 : t.at _ _ = p1
            have gp1 := good_bd (by rw [← hp1]; exact ok.at_good _ _ : p1.good = true)
            refine sh ?_
            refine ILoop.one 100 ?_
            refine sh ?_
            refine acnd_t (by rfl) ?_
            refine sh ?_
            refine ILoop.one 100 ?_
            refine sh ?_
            refine acnd_t (by rfl) ?_
            refine sh ?_
            refine ILoop.one 100 ?_
            refine sh ?_
            refine acnd_t (by rfl) ?_
            refine sh ?_
            refine ILoop.one 100 ?_
            refine sh ?_
            refine acnd_f (by rfl) ?_
            refine sh ?_
            refine ILoop.one 100 ?_
            refine sh ?_
            refine acnd_t (by rfl) ?_
            refine sh ?_
            refine ICall.pure h.n95.o95.hb (texel95_c h.n95 t ok _ _) rfl ?_
            generalize hp2 : t.at _ _ = p2
            have gp2 := good_bd (by rw [← hp2]; exact ok.at_good _ _ : p2.good = true)
            refine sh ?_
            refine ILoop.one 100 ?_
            refine sh ?_
            refine acnd_t (by rfl) ?_
            refine sh ?_
            refine ILoop.one 100 ?_
            refine sh ?_
            refine acnd_t (by rfl) ?_
            refine sh ?_
            refine ILoop.one 100 ?_
            refine sh ?_
            refine acnd_t (by rfl) ?_
            refine sh ?_
            refine ILoop.one 100 ?_
            refine sh ?_
            refine acnd_f (by rfl) ?_
            refine sh ?_
            refine ILoop.one 100 ?_
            refine sh ?_
            refine acnd_t (by rfl) ?_
            refine sh ?_
            refine ICall.pure h.n95.o95.hb (texel95_c h.n95 t ok _ _) rfl ?_
            generalize hp3 : t.at _ _ = p3
            have gp3 := good_bd (by rw [← hp3]; exact ok.at_good _ _ : p3.good = true)
            refine sh ?_
            refine ILoop.one 100 ?_
            refine sh ?_
            refine acnd_t (by rfl) ?_
            refine sh ?_
            refine ILoop.one 100 ?_
            refine sh ?_
            refine acnd_t (by rfl) ?_
            refine sh ?_
            refine ILoop.one 100 ?_
            refine sh ?_
            refine acnd_t (by rfl) ?_
            refine sh ?_
            refine ILoop.one 100 ?_
            refine sh ?_
            refine acnd_f (by rfl) ?_
            refine sh ?_
            refine ILoop.one 100 ?_
            refine sh ?_
            refine acnd_f (by rfl) ?_
            refine sh ?_
            refine ILoop.one 100 ?_
            refine sh ?_
            refine acnd_t (by rfl) ?_
            refine sh ?_
            rw [Int.tdiv_eq_ediv_of_nonneg (by omega)]
            refine wI ?_
            refine sh ?_
            refine ILoop.one 100 ?_
            refine sh ?_
            refine acnd_t (by rfl) ?_
            refine sh ?_
            rw [Int.tdiv_eq_ediv_of_nonneg (by omega)]
            refine wI ?_
            refine sh ?_
            refine ILoop.one 100 ?_
            refine sh ?_
            refine acnd_t (by rfl) ?_
            refine sh ?_
            rw [Int.tdiv_eq_ediv_of_nonneg (by omega)]
            refine wI ?_
            refine sh ?_
            refine ILoop.one 100 ?_
            refine sh ?_
            refine acnd_f (by rfl) ?_
            have e := next_eq (y := 0) (x := 0) (k := 0) hs (by omega) (by simp)
            have e2 : t.next (t.side / 2) ((0 : Nat) : Int) = avg p0 p1 p2 p3 := by
              rw [e, ← hp0, ← hp1, ← hp2, ← hp3]
              simp [zm00, zd00, zm10, zd01]
            refine sh ?_
            refine nRm [0, 1, 2, 9] (.inr 1) ?_ ?_ ?_
            · exact ⟨by omega, hs8.1⟩
            · simp; omega
            · all_goals repeat' (first | exact True.intro | refine And.intro ?_ ?_ | (intro _u; clear _u) | (with_reducible first | refine eM ?_ ?_ | refine eF ?_ ?_ ?_ | refine eN ?_ | refine eL ?_ ?_ ?_ | refine eA ?_ ?_ | refine IWk.mk ⟨_, hp, rfl⟩ ?_ ?_) | refine IWk.mk ⟨_, hp, rfl⟩ ?_ ?_)
              all_goals first | with_reducible rfl | omega | exact Or.inl (by decide) | (simp; done) | rfl | skip
              all_goals (rw [slc3_nexts, e2]; simp [slc3, avg, t3])
          · obtain ⟨x1, x2⟩ : 1 ≤ x ∧ x ≤ s := hV
            dsimp only [Sum.elim_inr]
            refine sh ?_
            refine cS (fun g1 => ?_) (fun g1 => ?_)
            · have zm00 : Int.tmod 0 2 = 0 := by decide
              have zd00 : Int.tdiv 0 2 = 0 := by decide
              have zm10 : Int.tmod (0 + 1) 2 = 1 := by decide
              have zd10 : Int.tdiv (0 + 1) 2 = 0 := by decide
              have zm01 : Int.tmod (0 + 1 + 1) 2 = 0 := by decide
              have zd01 : Int.tdiv (0 + 1 + 1) 2 = 1 := by decide
              have zm11 : Int.tmod (0 + 1 + 1 + 1) 2 = 1 := by decide
              have zd11 : Int.tdiv (0 + 1 + 1 + 1) 2 = 1 := by decide
              refine sh ?_
              refine ILoop.one 100 ?_
              refine sh ?_
              refine acnd_t (by rfl) ?_
              refine sh ?_
              refine ICall.pure h.n95.o95.hb (texel95_c h.n95 t ok _ _) rfl ?_
              generalize hp0 : t.at _ _ = p0
              have gp0 := good_bd (by rw [← hp0]; exact ok.at_good _ _ : p0.good = true)
              refine sh ?_
              refine ILoop.one 100 ?_
              refine sh ?_
              refine acnd_t (by rfl) ?_
              refine sh ?_
              refine ILoop.one 100 ?_
              refine sh ?_
              refine acnd_t (by rfl) ?_
              refine sh ?_
              refine ILoop.one 100 ?_
              refine sh ?_
              refine acnd_t (by rfl) ?_
              refine sh ?_
              refine ILoop.one 100 ?_
              refine sh ?_
              refine acnd_f (by rfl) ?_
              refine sh ?_
              refine ILoop.one 100 ?_
              refine sh ?_
              refine acnd_t (by rfl) ?_
              refine sh ?_
              refine ICall.pure h.n95.o95.hb (texel95_c h.n95 t ok _ _) rfl ?_
              generalize hp1 : t.at _ _ = p1
              have gp1 := good_bd (by rw [← hp1]; exact ok.at_good _ _ : p1.good = true)
              refine sh ?_
              refine ILoop.one 100 ?_
              refine sh ?_
              refine acnd_t (by rfl) ?_
              refine sh ?_
              refine ILoop.one 100 ?_
              refine sh ?_
              refine acnd_t (by rfl) ?_
              refine sh ?_
              refine ILoop.one 100 ?_
              refine sh ?_
              refine acnd_t (by rfl) ?_
              refine sh ?_
              refine ILoop.one 100 ?_
              refine sh ?_
              refine acnd_f (by rfl) ?_
              refine sh ?_
              refine ILoop.one 100 ?_
              refine sh ?_
              refine acnd_t (by rfl) ?_
              refine sh ?_
              refine ICall.pure h.n95.o95.hb (texel95_c h.n95 t ok _ _) rfl ?_
              generalize hp2 : t.at _ _ = p2
              have gp2 := good_bd (by rw [← hp2]; exact ok.at_good _ _ : p2.good = true)
              refine sh ?_
              refine ILoop.one 100 ?_
              refine sh ?_
              refine acnd_t (by rfl) ?_
              refine sh ?_
              refine ILoop.one 100 ?_
              refine sh ?_
              refine acnd_t (by rfl) ?_
              refine sh ?_
              refine ILoop.one 100 ?_
              refine sh ?_
              refine acnd_t (by rfl) ?_
              refine sh ?_
              refine ILoop.one 100 ?_
              refine sh ?_
              refine acnd_f (by rfl) ?_
              refine sh ?_
              refine ILoop.one 100 ?_
              refine sh ?_
              refine acnd_t (by rfl) ?_
              refine sh ?_
              refine ICall.pure h.n95.o95.hb (texel95_c h.n95 t ok _ _) rfl ?_
              generalize hp3 : t.at _ _ = p3
              have gp3 := good_bd (by rw [← hp3]; exact ok.at_good _ _ : p3.good = true)
              refine sh ?_
              refine ILoop.one 100 ?_
              refine sh ?_
              refine acnd_t (by rfl) ?_
              refine sh ?_
              refine ILoop.one 100 ?_
              refine sh ?_
              refine acnd_t (by rfl) ?_
              refine sh ?_
              refine ILoop.one 100 ?_
              refine sh ?_
              refine acnd_t (by rfl) ?_
              refine sh ?_
              refine ILoop.one 100 ?_
              refine sh ?_
              refine acnd_f (by rfl) ?_
              refine sh ?_
              refine ILoop.one 100 ?_
              refine sh ?_
              refine acnd_f (by rfl) ?_
              refine sh ?_
              refine ILoop.one 100 ?_
              refine sh ?_
              refine acnd_t (by rfl) ?_
              refine sh ?_
              rw [Int.tdiv_eq_ediv_of_nonneg (by omega)]
              refine wI ?_
              refine sh ?_
              refine ILoop.one 100 ?_
              refine sh ?_
              refine acnd_t (by rfl) ?_
              refine sh ?_
              rw [Int.tdiv_eq_ediv_of_nonneg (by omega)]
              refine wI ?_
              refine sh ?_
              refine ILoop.one 100 ?_
              refine sh ?_
              refine acnd_t (by rfl) ?_
              refine sh ?_
              rw [Int.tdiv_eq_ediv_of_nonneg (by omega)]
              refine wI ?_
              refine sh ?_
              refine ILoop.one 100 ?_
              refine sh ?_
              refine acnd_f (by rfl) ?_
              have e := next_eq (y := 0) (x := x) (k := x) hs (by omega) (by simp)
              have e2 : t.next (t.side / 2) (x : Int) = avg p0 p1 p2 p3 := by
                rw [e, ← hp0, ← hp1, ← hp2, ← hp3]
                simp
              refine sh ?_
              refine nX (.inr (x + 1)) ?_ ?_ ⟨_, hp, rfl⟩ ?_ ?_
              · exact ⟨by omega, by omega⟩
              · simp; omega
              · all_goals repeat' (first | exact True.intro | refine And.intro ?_ ?_ | (intro _u; clear _u) | (with_reducible first | refine eM ?_ ?_ | refine eF ?_ ?_ ?_ | refine eN ?_ | refine eL ?_ ?_ ?_ | refine eA ?_ ?_ | refine IWk.mk ⟨_, hp, rfl⟩ ?_ ?_) | refine IWk.mk ⟨_, hp, rfl⟩ ?_ ?_)
                all_goals first | with_reducible rfl | omega | exact Or.inl (by decide) | (simp; done) | rfl | skip
              · all_goals repeat' (first | exact True.intro | refine And.intro ?_ ?_ | (intro _u; clear _u) | (with_reducible first | refine eM ?_ ?_ | refine eF ?_ ?_ ?_ | refine eN ?_ | refine eL ?_ ?_ ?_ | refine eA ?_ ?_ | refine IWk.mk ⟨_, hp, rfl⟩ ?_ ?_) | refine IWk.mk ⟨_, hp, rfl⟩ ?_ ?_)
                all_goals first | with_reducible rfl | omega | exact Or.inl (by decide) | (simp; done) | rfl | skip
                all_goals (rw [slc3_nexts, e2]; simp [slc3, avg, t3])
            · have ex : x = s := by omega
              subst ex
              refine sh ?_
              refine nX (.inr 1) ?_ ?_ ⟨_, hp, rfl⟩ ?_ ?_
              · exact ⟨by omega, by omega⟩
              · simp; omega
              · all_goals repeat' (first | exact True.intro | refine And.intro ?_ ?_ | (intro _u; clear _u) | (with_reducible first | refine eM ?_ ?_ | refine eF ?_ ?_ ?_ | refine eN ?_ | refine eL ?_ ?_ ?_ | refine eA ?_ ?_ | refine IWk.mk ⟨_, hp, rfl⟩ ?_ ?_) | refine IWk.mk ⟨_, hp, rfl⟩ ?_ ?_)
                all_goals first | with_reducible rfl | omega | exact Or.inl (by decide) | (simp; done) | rfl | skip
              · all_goals repeat' (first | exact True.intro | refine And.intro ?_ ?_ | (intro _u; clear _u) | (with_reducible first | refine eM ?_ ?_ | refine eF ?_ ?_ ?_ | refine eN ?_ | refine eL ?_ ?_ ?_ | refine eA ?_ ?_ | refine IWk.mk ⟨_, hp, rfl⟩ ?_ ?_) | refine IWk.mk ⟨_, hp, rfl⟩ ?_ ?_)
                all_goals first | with_reducible rfl | omega | exact Or.inl (by decide) | (simp; done) | rfl | skip
                all_goals simp
      · obtain ⟨y1, y2⟩ : 1 ≤ y ∧ y ≤ s := hV
        dsimp only [Sum.elim_inr]
        have hys : y * s ≤ 8 * 8 := Nat.mul_le_mul (by omega) (by omega)
        refine sh ?_
        refine cS (fun g2 => ?_) (fun g2 => ?_)
        · refine sh ?_
          refine lPa 300 (fun x : Nat => x ≤ s) (fun x => ⟨[(1, .loc 0 1 0 0), (2, .loc 1 1 0 0), (5, .loc 2 1 0 0), (6, .int .i64 y), (7, .int .i64 x)], [(3, .arr (R.ty 13) 3 (slc3 (nexts t (y * s + x)))), (2, .var (R.ty 12) [.int .i64 s, .osl 3 (y * s + x)]), (1, .var (R.ty 12) [.int .i64 0, .nils]), (0, .var (R.ty 12) t.row)], 4⟩) (fun x => s - x) (0) ?_ ?_
          · omega
          · intro x hx
            dsimp only
            refine sh ?_
            refine cS (fun g3 => ?_) (fun g3 => ?_)
            · have zm00 : Int.tmod 0 2 = 0 := by decide
              have zd00 : Int.tdiv 0 2 = 0 := by decide
              have zm10 : Int.tmod (0 + 1) 2 = 1 := by decide
              have zd10 : Int.tdiv (0 + 1) 2 = 0 := by decide
              have zm01 : Int.tmod (0 + 1 + 1) 2 = 0 := by decide
              have zd01 : Int.tdiv (0 + 1 + 1) 2 = 1 := by decide
              have zm11 : Int.tmod (0 + 1 + 1 + 1) 2 = 1 := by decide
              have zd11 : Int.tdiv (0 + 1 + 1 + 1) 2 = 1 := by decide
              refine sh ?_
              refine ILoop.one 100 ?_
              refine sh ?_
              refine acnd_t (by rfl) ?_
              refine sh ?_
              refine ICall.pure h.n95.o95.hb (texel95_c h.n95 t ok _ _) rfl ?_
              generalize hp0 : t.at _ _ = p0
              have gp0 := good_bd (by rw [← hp0]; exact ok.at_good _ _ : p0.good = true)
              refine sh ?_
              refine ILoop.one 100 ?_
              refine sh ?_
              refine acnd_t (by rfl) ?_
              refine sh ?_
              refine ILoop.one 100 ?_
              refine sh ?_
              refine acnd_t (by rfl) ?_
              refine sh ?_
              refine ILoop.one 100 ?_
              refine sh ?_
              refine acnd_t (by rfl) ?_
              refine sh ?_
              refine ILoop.one 100 ?_
              refine sh ?_
              refine acnd_f (by rfl) ?_
              refine sh ?_
              refine ILoop.one 100 ?_
              refine sh ?_
              refine acnd_t (by rfl) ?_
              refine sh ?_
              refine ICall.pure h.n95.o95.hb (texel95_c h.n95 t ok _ _) rfl ?_
              generalize hp1 : t.at _ _ = p1
              have gp1 := good_bd (by rw [← hp1]; exact ok.at_good _ _ : p1.good = true)
              refine sh ?_
              refine ILoop.one 100 ?_
              refine sh ?_
              refine acnd_t (by rfl) ?_
              refine sh ?_
              refine ILoop.one 100 ?_
              refine sh ?_
              refine acnd_t (by rfl) ?_
              refine sh ?_
              refine ILoop.one 100 ?_
              refine sh ?_
              refine acnd_t (by rfl) ?_
              refine sh ?_
              refine ILoop.one 100 ?_
              refine sh ?_
              refine acnd_f (by rfl) ?_
              refine sh ?_
              refine ILoop.one 100 ?_
              refine sh ?_
              refine acnd_t (by rfl) ?_
              refine sh ?_
              refine ICall.pure h.n95.o95.hb (texel95_c h.n95 t ok _ _) rfl ?_
              generalize hp2 : t.at _ _ = p2
              have gp2 := good_bd (by rw [← hp2]; exact ok.at_good _ _ : p2.good = true)
              refine sh ?_
              refine ILoop.one 100 ?_
              refine sh ?_
              refine acnd_t (by rfl) ?_
              refine sh ?_
              refine ILoop.one 100 ?_
              refine sh ?_
              refine acnd_t (by rfl) ?_
              refine sh ?_
              refine ILoop.one 100 ?_
              refine sh ?_
              refine acnd_t (by rfl) ?_
              refine sh ?_
              refine ILoop.one 100 ?_
              refine sh ?_
              refine acnd_f (by rfl) ?_
              refine sh ?_
              refine ILoop.one 100 ?_
              refine sh ?_
              refine acnd_t (by rfl) ?_
              refine sh ?_
              refine ICall.pure h.n95.o95.hb (texel95_c h.n95 t ok _ _) rfl ?_
              generalize hp3 : t.at _ _ = p3
              have gp3 := good_bd (by rw [← hp3]; exact ok.at_good _ _ : p3.good = true)
              refine sh ?_
              refine ILoop.one 100 ?_
              refine sh ?_
              refine acnd_t (by rfl) ?_
              refine sh ?_
              refine ILoop.one 100 ?_
              refine sh ?_
              refine acnd_t (by rfl) ?_
              refine sh ?_
              refine ILoop.one 100 ?_
              refine sh ?_
              refine acnd_t (by rfl) ?_
              refine sh ?_
              refine ILoop.one 100 ?_
              refine sh ?_
              refine acnd_f (by rfl) ?_
              refine sh ?_
              refine ILoop.one 100 ?_
              refine sh ?_
              refine acnd_f (by rfl) ?_
              refine sh ?_
              refine ILoop.one 100 ?_
              refine sh ?_
              refine acnd_t (by rfl) ?_
              refine sh ?_
              rw [Int.tdiv_eq_ediv_of_nonneg (by omega)]
              refine wI ?_
              refine sh ?_
              refine ILoop.one 100 ?_
              refine sh ?_
              refine acnd_t (by rfl) ?_
              refine sh ?_
              rw [Int.tdiv_eq_ediv_of_nonneg (by omega)]
              refine wI ?_
              refine sh ?_
              refine ILoop.one 100 ?_
              refine sh ?_
              refine acnd_t (by rfl) ?_
              refine sh ?_
              rw [Int.tdiv_eq_ediv_of_nonneg (by omega)]
              refine wI ?_
              refine sh ?_
              refine ILoop.one 100 ?_
              refine sh ?_
              refine acnd_f (by rfl) ?_
              have e := next_eq (y := y) (x := x) (k := y * s + x) hs (by omega) rfl
              have e2 : t.next (t.side / 2) ((y * s + x : Nat) : Int) = avg p0 p1 p2 p3 := by
                rw [e, ← hp0, ← hp1, ← hp2, ← hp3]
                simp
              refine sh ?_
              refine nX (x + 1) ?_ ?_ ⟨_, hp, rfl⟩ ?_ ?_
              · omega
              · omega
              · all_goals repeat' (first | exact True.intro | refine And.intro ?_ ?_ | (intro _u; clear _u) | (with_reducible first | refine eM ?_ ?_ | refine eF ?_ ?_ ?_ | refine eN ?_ | refine eL ?_ ?_ ?_ | refine eA ?_ ?_ | refine IWk.mk ⟨_, hp, rfl⟩ ?_ ?_) | refine IWk.mk ⟨_, hp, rfl⟩ ?_ ?_)
                all_goals first | with_reducible rfl | omega | exact Or.inl (by decide) | (simp; done) | rfl | skip
              · all_goals repeat' (first | exact True.intro | refine And.intro ?_ ?_ | (intro _u; clear _u) | (with_reducible first | refine eM ?_ ?_ | refine eF ?_ ?_ ?_ | refine eN ?_ | refine eL ?_ ?_ ?_ | refine eA ?_ ?_ | refine IWk.mk ⟨_, hp, rfl⟩ ?_ ?_) | refine IWk.mk ⟨_, hp, rfl⟩ ?_ ?_)
                all_goals first | with_reducible rfl | omega | exact Or.inl (by decide) | (simp; done) | rfl | skip
                all_goals first | (simp; done) | (simp; omega) | (rw [show y * s + (x + 1) = y * s + x + 1 by omega, slc3_nexts, e2]; simp [slc3, avg, t3]) | (rw [slc3_nexts, e2]; simp [slc3, avg, t3])
            · have ex : x = s := by omega
              subst ex
              have em : (y + 1) * x = y * x + x := Nat.succ_mul y x
              refine sh ?_
              refine nX (.inr (y + 1)) ?_ ?_ ⟨_, hp, rfl⟩ ?_ ?_
              · exact ⟨by omega, by omega⟩
              · simp; omega
              · all_goals repeat' (first | exact True.intro | refine And.intro ?_ ?_ | (intro _u; clear _u) | (with_reducible first | refine eM ?_ ?_ | refine eF ?_ ?_ ?_ | refine eN ?_ | refine eL ?_ ?_ ?_ | refine eA ?_ ?_ | refine IWk.mk ⟨_, hp, rfl⟩ ?_ ?_) | refine IWk.mk ⟨_, hp, rfl⟩ ?_ ?_)
                all_goals first | with_reducible rfl | omega | exact Or.inl (by decide) | (simp; done) | rfl | skip
                all_goals first | (rw [em]; done) | (simp [em]; done) | (dsimp only [Sum.elim_inr]; rw [em])
              · all_goals repeat' (first | exact True.intro | refine And.intro ?_ ?_ | (intro _u; clear _u) | (with_reducible first | refine eM ?_ ?_ | refine eF ?_ ?_ ?_ | refine eN ?_ | refine eL ?_ ?_ ?_ | refine eA ?_ ?_ | refine IWk.mk ⟨_, hp, rfl⟩ ?_ ?_) | refine IWk.mk ⟨_, hp, rfl⟩ ?_ ?_)
                all_goals first | with_reducible rfl | omega | exact Or.inl (by decide) | (simp; done) | rfl | skip
                all_goals first | (rw [em]; done) | (simp [em]; done) | (dsimp only [Sum.elim_inr]; rw [em])
        · have ey : y = s := by omega
          subst ey
          have eh : t.half = ⟨y, nexts t (y * y)⟩ := by
            unfold Tex.half
            rw [show t.side / 2 = (y : Int) by omega, show ((y : Int) * (y : Int)).toNat = y * y by rw [← Int.natCast_mul, Int.toNat_natCast]]
          rw [eh]
          refine sh ?_
          exact rT
end Go.UM

namespace Go.UM
open Go.AM
set_option maxRecDepth 4000
theorem rhalfs_c {R : Env} (h : N92 R) (t : Tex) (hl : t.t.length ≤ 1073741824) : R.Pc 92 [.agg t.row] (.tup [.agg (halfs t).1.row, .int .i64 (halfs t).2]) := by
  by_cases h0 : tchk t = 0
  · by_cases h1 : t.side = 1
    · rw [show halfs t = (⟨0, []⟩, 2) by unfold halfs; rw [if_neg (by simpa using h0), if_pos h1]]
      exact h.o92.enter 100 rfl fun X bb hfit hp => by
        refine sh ?_
        refine ICall.pure h.n85.o85.hb (rtchk_c h.n85 t hl) rfl ?_
        refine sh ?_
        refine acnd_f (by simpa using h0) ?_
        refine sh ?_
        refine acnd_t (by simpa using h1) ?_
        refine sh ?_
        exact rT
    · rw [show halfs t = (t.half, 0) by unfold halfs; rw [if_neg (by simpa using h0), if_neg h1]]
      have ok := tchk_ok h0
      have := side_le ok
      exact rhalf92_c h t ok (by omega)
  · rw [show halfs t = (⟨0, []⟩, tchk t) by unfold halfs; rw [if_pos h0]]
    exact h.o92.enter 100 rfl fun X bb hfit hp => by
      refine sh ?_
      refine ICall.pure h.n85.o85.hb (rtchk_c h.n85 t hl) rfl ?_
      refine sh ?_
      refine acnd_t (by simpa using h0) ?_
      refine sh ?_
      exact rT
theorem ch_ok : ∀ (n : Nat) (t : Tex), TexOk t → ∀ v ∈ ch n t, TexOk v
  | 0, t, _, v, h => by simp [ch] at h
  | n + 1, t, ok, v, h => by
    rw [ch] at h
    rcases List.mem_cons.1 h with rfl | h
    · exact ok
    · split at h
      · rename_i hs
        exact ch_ok n t.half (ok.half hs) v h
      · simp at h
theorem TexOk.len {t : Tex} (ok : TexOk t) : t.t.length ≤ 256 := by
  have := ok.l
  have := side_le ok
  have : t.side * t.side ≤ 16 * 16 := Int.mul_le_mul (by omega) (by omega) (by omega) (by omega)
  omega
theorem halfs_len (t : Tex) : (halfs t).1.t.length ≤ 256 := by
  by_cases h0 : tchk t = 0
  · have ok := tchk_ok h0
    by_cases h1 : t.side = 1
    · rw [show halfs t = (⟨0, []⟩, 2) by unfold halfs; rw [if_neg (by simpa using h0), if_pos h1]]; simp
    · rw [show halfs t = (t.half, 0) by unfold halfs; rw [if_neg (by simpa using h0), if_neg h1]]
      have := side_le ok
      exact (ok.half (by omega)).len
  · rw [show halfs t = (⟨0, []⟩, tchk t) by unfold halfs; rw [if_pos h0]]; simp
theorem lvT_ok (t : Tex) : ∀ v ∈ (lvT t).1, v.t.length ≤ 256 := by
  unfold lvT
  split
  · simp
  · rename_i h0
    intro v hv
    exact (ch_ok 16 t (tchk_ok (by simpa using h0)) v (by rw [← show lvs t = ch 16 t from lvF_ch 16 t []]; exact hv)).len
theorem lvT_len (t : Tex) : (lvT t).1.length ≤ 16 := by
  unfold lvT
  split
  · simp
  · show (lvs t).length ≤ 16
    rw [show lvs t = ch 16 t from lvF_ch 16 t []]; exact ch_len 16 t
theorem levels_law {R : Env} (h : N90 R) (t : Tex) (x y : Int) (hx : inI .i64 x) (hy : inI .i64 y) : R.Pc 90 [.agg t.row, .int .i64 x, .int .i64 y] (.bool true) :=
  h.o90.enter 300 rfl fun X bb hfit hp => by
    refine sh ?_
    refine ICall.pure h.n81.o81.hb (few14_c h.n81 t) rfl ?_
    have hfl : t.few.t.length ≤ 1073741824 := by simp [Tex.few]; omega
    generalize t.few = t at *
    refine sh ?_
    refine ICall.pure h.n91.o91.hb (halfs_c h.n91 t hfl) rfl ?_
    refine sh ?_
    refine ICall.pure h.n92.o92.hb (rhalfs_c h.n92 t hfl) rfl ?_
    refine sh ?_
    refine ICall.pure h.n88.o88.hb (tlevels_c h.n88 t hfl) rfl ?_
    refine sh ?_
    refine ICall.pure h.n93.o93.hb (rtlevels_c h.n93 (fun t ok g => rhalf92_c h.n92 t ok g) t hfl) rfl ?_
    have hhl := halfs_len t
    refine sh ?_
    refine ICall.pure h.n89.o89.hb (same14_c h.n89 (halfs t).1 (by omega)) rfl ?_
    refine sh ?_
    refine acnd_f (by simp) ?_
    refine sh ?_
    refine acnd_f (by simp) ?_
    refine sh ?_
    refine acnd_f (by simp) ?_
    have hL := lvT_ok t
    have hn := lvT_len t
    refine sh ?_
    refine lPa 200 (fun k : Nat => k ≤ (lvT t).1.length) (fun k => ⟨[(1, .int .i64 x), (2, .int .i64 y), (3, .loc 0 1 0 0), (11, .isl 2 (slX (lvT t).1)), (13, .isl 2 (slX (lvT t).1)), (14, .int .i64 (lvT t).2), (62, .int .i64 (lvT t).1.length), (63, .int .i64 k)], [(0, .var (R.ty 12) t.row)], 1⟩) (fun k => (lvT t).1.length - k) (0) ?_ ?_
    · omega
    · intro k hk
      dsimp only
      refine sh ?_
      refine cS (fun g1 => ?_) (fun g1 => ?_)
      · obtain ⟨v, hv⟩ : ∃ u_, (lvT t).1[k]? = some u_ := ⟨_, List.getElem?_eq_getElem (by omega)⟩
        have hvl := hL v (List.mem_of_getElem? hv)
        refine sh ?_
        refine eget_map hv ?_
        refine sh ?_
        refine eget_map hv ?_
        refine sh ?_
        refine ICall.pure h.n89.o89.hb (same14_c h.n89 v (by omega)) rfl ?_
        refine sh ?_
        refine nXa (k + 1) ?_ ?_
        · omega
        · omega
      · refine sh ?_
        refine ICall.pure h.n94.o94.hb (at94_c h.n94 t hfl x y hx hy) rfl ?_
        by_cases h0 : tchk t = 0
        · have ok := tchk_ok h0
          rw [show lvT t = (lvs t, 0) by unfold lvT; rw [if_neg (by simpa using h0)]]
          rw [show tat t x y = (t.at x y, 0) by unfold tat; rw [if_neg (by simpa using h0)]]
          refine sh ?_
          refine acnd_f (by rfl) ?_
          refine sh ?_
          refine acnd_t (by rfl) ?_
          refine sh ?_
          refine ICall.pure h.n95.o95.hb (texel95_c h.n95 t ok x y) rfl ?_
          refine sh ?_
          refine acnd_t (by simp) ?_
          refine sh ?_
          refine ICall.pure h.n86.o86.hb (works14_c h.n86) rfl ?_
          refine sh ?_
          exact rT
        · rw [show lvT t = ([], tchk t) by unfold lvT; rw [if_pos h0]]
          rw [show tat t x y = (⟨0, 0, 0⟩, tchk t) by unfold tat; rw [if_pos h0]]
          refine sh ?_
          refine acnd_t (by simpa using h0) ?_
          refine sh ?_
          refine acnd_t (by simp) ?_
          refine sh ?_
          refine acnd_t (by rfl) ?_
          refine sh ?_
          refine ICall.pure h.n86.o86.hb (works14_c h.n86) rfl ?_
          refine sh ?_
          exact rT
end Go.UM

namespace Go.UM
open Go.AM
end Go.UM
