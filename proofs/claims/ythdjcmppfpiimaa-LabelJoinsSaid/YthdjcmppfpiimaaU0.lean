/- Of the reckoning machine, and what is proved with it: texts joined by program. -/
import Derived.Test.YthdjcmppfpiimaaK1
set_option linter.all false

/- The resolved code of package label, function by function; numbers are those of the register, the same for all programs. -/

namespace Go.UM
open Go.AM
/-- umbra.label.fold[uint32,uint32][uint32,uint32] -/
def c16 : IFn := { np := 3, rs := [.t 6], body :=
 (.seq
  (.ops [⟨some 6, none, .mv (.k (.int .u32 0))⟩])
  (.seq
   (.seq
    (.ops [⟨some 9, none, .mv (.t 1)⟩,
      ⟨some 10, none, .lenS (.t 9)⟩,
      ⟨some 11, none, .mv (.k (.int .i64 0))⟩])
    (.keep [0, 2, 9, 10, 11]
     (.block 0
      (.loop
       (.seq
        (.ops [⟨some 12, none, .bin .lss (.t 11) (.t 10)⟩])
        (.seq
         (.cond (.t 12)
          .skip
          (.exit 0))
         (.keep [0, 2, 9, 10, 11]
          (.seq
           (.block 1
            (.seq
             (.ops [⟨some 13, none, .idxS 1 (.t 9) (.t 11)⟩,
               ⟨some 14, none, .load false 1 (.t 13)⟩,
               ⟨some 8, none, .mv (.t 14)⟩])
             (.ops [⟨some 15, none, .mv (.t 2)⟩,
               ⟨some 16, none, .mv (.t 0)⟩,
               ⟨some 17, none, .mv (.t 8)⟩,
               ⟨some 18, none, .callv (.t 15) [.t 16, .t 17]⟩,
               ⟨some 0, none, .mv (.t 18)⟩])))
           (.keep [0, 2, 9, 10, 11]
            (.ops [⟨some 19, none, .bin .add (.t 11) (.k (.int .i64 1))⟩,
              ⟨some 11, none, .mv (.t 19)⟩]))))))))))
   (.keep [0]
    (.seq
     (.ops [⟨some 20, none, .mv (.t 0)⟩,
       ⟨some 6, none, .mv (.t 20)⟩])
     .ret)))) }
structure N16 (R : Env) : Prop where
  o16 : R.Fn 16 c16
/-- umbra.label.Join$1 -/
def c17 : IFn := { np := 2, rs := [.t 4], body :=
 (.seq
  (.ops [⟨some 4, none, .mv (.k (.int .u32 0))⟩])
  (.seq
   (.ops [⟨some 5, none, .mv (.t 0)⟩,
     ⟨some 6, none, .mv (.t 1)⟩,
     ⟨some 7, none, .bin .or (.t 5) (.t 6)⟩,
     ⟨some 4, none, .mv (.t 7)⟩])
   .ret)) }
structure N17 (R : Env) : Prop where
  o17 : R.Fn 17 c17
/-- umbra.label.Join -/
def c4 : IFn := { np := 1, rs := [.t 2], body :=
 (.seq
  (.ops [⟨some 2, none, .mv (.k (.int .u32 0))⟩])
  (.seq
   (.ops [⟨some 3, none, .mv (.t 0)⟩,
     ⟨some 4, none, .call 16 [.k (.int .u32 0), .t 3, .f 17]⟩,
     ⟨some 2, none, .mv (.t 4)⟩])
   .ret)) }
structure N4 (R : Env) : Prop where
  o4 : R.Fn 4 c4
  n16 : N16 R
  n17 : N17 R
/-- umbra.label.Below -/
def c6 : IFn := { np := 2, rs := [.t 4], body :=
 (.seq
  (.ops [⟨some 4, none, .mv (.k (.bool false))⟩])
  (.seq
   (.ops [⟨some 5, none, .mv (.t 0)⟩,
     ⟨some 6, none, .mv (.t 1)⟩,
     ⟨some 7, none, .bin .andNot (.t 5) (.t 6)⟩,
     ⟨some 8, none, .bin .eql (.t 7) (.k (.int .u32 0))⟩,
     ⟨some 4, none, .mv (.t 8)⟩])
   (.keep [4]
    .ret))) }
structure N6 (R : Env) : Prop where
  o6 : R.Fn 6 c6
/-- umbra.label.Bits -/
def c11 : IFn := { np := 2, rs := [.t 4], body :=
 (.seq
  (.ops [⟨some 2, none, .box 1 (.t 0)⟩,
    ⟨some 4, none, .mv (.k (.int .u8 0))⟩])
  (.seq
   (.seq
    (.ops [⟨some 5, none, .mv (.t 1)⟩,
      ⟨some 6, none, .bin .lss (.t 5) (.k (.int .i64 0))⟩,
      ⟨some 7, none, .mv (.t 6)⟩,
      ⟨some 8, some (7, false), .mv (.t 1)⟩,
      ⟨some 9, some (7, false), .bin .geq (.t 8) (.k (.int .i64 8))⟩,
      ⟨some 10, none, .pick (.t 7) (.k (.bool true)) (.t 9)⟩])
    (.keep [1, 2, 10]
     (.cond (.t 10)
      (.seq
       (.ops [⟨some 4, none, .mv (.k (.int .u8 0))⟩])
       .ret)
      .skip)))
   (.keep [1, 2]
    (.seq
     (.ops [⟨some 11, none, .mv (.t 1)⟩,
       ⟨some 12, none, .idxA 8 1 (.t 2) (.t 11)⟩,
       ⟨some 13, none, .load false 1 (.t 12)⟩,
       ⟨some 4, none, .mv (.t 13)⟩])
     .ret)))) }
structure N11 (R : Env) : Prop where
  o11 : R.Fn 11 c11
/-- umbra.label.Sees -/
def c12 : IFn := { np := 2, rs := [.t 4], body :=
 (.seq
  (.ops [⟨some 2, none, .box 1 (.t 0)⟩,
    ⟨some 4, none, .mv (.k (.bool false))⟩])
  (.seq
   (.ops [⟨some 5, none, .load true 8 (.t 2)⟩,
     ⟨some 6, none, .mv (.t 1)⟩,
     ⟨some 7, none, .call 11 [.t 5, .t 6]⟩,
     ⟨some 8, none, .bin .neq (.t 7) (.k (.int .u8 0))⟩,
     ⟨some 4, none, .mv (.t 8)⟩])
   (.keep [4]
    .ret))) }
structure N12 (R : Env) : Prop where
  o12 : R.Fn 12 c12
  n11 : N11 R
/-- umbra.label.fold[umbra.api.Manifest,[2]uint32][umbra.api.Manifest,[2]uint32] -/
def c18 : IFn := { np := 3, rs := [.cell 6 true 2], body :=
 (.seq
  (.ops [⟨some 3, none, .box 3 (.t 0)⟩,
    ⟨some 6, none, .alloc 3 [.int .u32 0, .int .u32 0]⟩])
  (.seq
   (.seq
    (.ops [⟨some 9, none, .mv (.t 1)⟩,
      ⟨some 10, none, .lenS (.t 9)⟩,
      ⟨some 11, none, .mv (.k (.int .i64 0))⟩])
    (.keep [2, 3, 6, 9, 10, 11]
     (.block 0
      (.loop
       (.seq
        (.ops [⟨some 12, none, .bin .lss (.t 11) (.t 10)⟩])
        (.seq
         (.cond (.t 12)
          .skip
          (.exit 0))
         (.keep [2, 3, 6, 9, 10, 11]
          (.seq
           (.block 1
            (.seq
             (.ops [⟨some 13, none, .idxS 15 (.t 9) (.t 11)⟩,
               ⟨some 14, none, .load true 15 (.t 13)⟩,
               ⟨some 8, none, .alloc 2 [.int .u64 0, .int .i64 0, .int .u32 0, .int .u8 0, .int .u8 0, .int .u8 0, .int .u8 0, .int .u8 0, .int .u8 0, .int .u8 0, .int .u8 0, .int .u32 0, .int .u32 0, .int .i64 0, .int .i64 0]⟩,
               ⟨none, none, .store 15 (.t 8) (.t 14)⟩])
             (.ops [⟨some 15, none, .mv (.t 2)⟩,
               ⟨some 16, none, .load true 2 (.t 3)⟩,
               ⟨some 17, none, .load true 15 (.t 8)⟩,
               ⟨some 18, none, .callv (.t 15) [.t 16, .t 17]⟩,
               ⟨none, none, .store 2 (.t 3) (.t 18)⟩])))
           (.keep [2, 3, 6, 9, 10, 11]
            (.ops [⟨some 19, none, .bin .add (.t 11) (.k (.int .i64 1))⟩,
              ⟨some 11, none, .mv (.t 19)⟩]))))))))))
   (.keep [3, 6]
    (.seq
     (.ops [⟨some 20, none, .load true 2 (.t 3)⟩,
       ⟨none, none, .store 2 (.t 6) (.t 20)⟩])
     .ret)))) }
structure N18 (R : Env) : Prop where
  o18 : R.Fn 18 c18
/-- umbra.label.Meet$1 -/
def c19 : IFn := { np := 2, rs := [.cell 4 true 2], body :=
 (.seq
  (.ops [⟨some 2, none, .box 3 (.t 0)⟩,
    ⟨some 3, none, .box 2 (.t 1)⟩,
    ⟨some 4, none, .alloc 3 [.int .u32 0, .int .u32 0]⟩])
  (.seq
   (.ops [⟨some 5, none, .idxA 2 1 (.t 2) (.k (.int .i64 0))⟩,
     ⟨some 6, none, .load false 1 (.t 5)⟩,
     ⟨some 7, none, .fldA 11 (.t 3)⟩,
     ⟨some 8, none, .load false 1 (.t 7)⟩,
     ⟨some 9, none, .mm true [.t 6, .t 8]⟩,
     ⟨some 10, none, .idxA 2 1 (.t 2) (.k (.int .i64 1))⟩,
     ⟨some 11, none, .load false 1 (.t 10)⟩,
     ⟨some 12, none, .fldA 12 (.t 3)⟩,
     ⟨some 13, none, .load false 1 (.t 12)⟩,
     ⟨some 14, none, .mm false [.t 11, .t 13]⟩,
     ⟨some 15, none, .build [.int .u32 0, .int .u32 0] [(0, 1, .t 9), (1, 1, .t 14)]⟩,
     ⟨none, none, .store 2 (.t 4) (.t 15)⟩])
   (.keep [4]
    .ret))) }
structure N19 (R : Env) : Prop where
  o19 : R.Fn 19 c19
/-- umbra.label.Meet -/
def c14 : IFn := { np := 3, rs := [.t 6, .t 7], body :=
 (.seq
  (.ops [⟨some 6, none, .mv (.k (.int .u32 0))⟩,
    ⟨some 7, none, .mv (.k (.int .u32 0))⟩])
  (.seq
   (.ops [⟨some 9, none, .mv (.t 0)⟩,
     ⟨some 10, none, .mv (.t 1)⟩,
     ⟨some 11, none, .build [.int .u32 0, .int .u32 0] [(0, 1, .t 9), (1, 1, .t 10)]⟩,
     ⟨some 12, none, .mv (.t 2)⟩,
     ⟨some 13, none, .call 18 [.t 11, .t 12, .f 19]⟩,
     ⟨some 8, none, .alloc 3 [.int .u32 0, .int .u32 0]⟩,
     ⟨none, none, .store 2 (.t 8) (.t 13)⟩])
   (.keep [8]
    (.seq
     (.draw [0, 1, 0, 4, 3, 31] [[8], [14], [8], [16], [15], [17]] [⟨some 14, none, .idxA 2 1 (.t 8) (.k (.int .i64 0))⟩,
       ⟨some 15, none, .load false 1 (.t 14)⟩,
       ⟨some 16, none, .idxA 2 1 (.t 8) (.k (.int .i64 1))⟩,
       ⟨some 17, none, .load false 1 (.t 16)⟩,
       ⟨some 6, none, .mv (.t 15)⟩,
       ⟨some 7, none, .mv (.t 17)⟩])
     (.keep [6, 7]
      .ret))))) }
structure N14 (R : Env) : Prop where
  o14 : R.Fn 14 c14
  n18 : N18 R
  n19 : N19 R
/-- umbra.label.Holds -/
def c15 : IFn := { np := 3, rs := [.t 6], body :=
 (.seq
  (.ops [⟨some 6, none, .mv (.k (.bool false))⟩])
  (.seq
   (.ops [⟨some 7, none, .mv (.t 0)⟩,
     ⟨some 8, none, .mv (.t 2)⟩,
     ⟨some 9, none, .bin .leq (.t 7) (.t 8)⟩,
     ⟨some 10, none, .mv (.t 9)⟩,
     ⟨some 11, some (10, true), .mv (.t 2)⟩,
     ⟨some 12, some (10, true), .mv (.t 1)⟩,
     ⟨some 13, some (10, true), .bin .leq (.t 11) (.t 12)⟩,
     ⟨some 14, none, .pick (.t 10) (.t 13) (.k (.bool false))⟩,
     ⟨some 6, none, .mv (.t 14)⟩])
   (.keep [6]
    .ret))) }
structure N15 (R : Env) : Prop where
  o15 : R.Fn 15 c15
end Go.UM

/- The resolved code of package umbralaw17, function by function; numbers are those of the register, the same for all programs. -/

namespace Go.UM
open Go.AM
/-- umbra.umbralaw17.bit -/
def c5 : IFn := { np := 2, rs := [.t 4], body :=
 (.seq
  (.ops [⟨some 4, none, .mv (.k (.bool false))⟩])
  (.seq
   (.ops [⟨some 5, none, .mv (.t 0)⟩,
     ⟨some 6, none, .mv (.t 1)⟩,
     ⟨some 7, none, .bin .shr (.t 5) (.t 6)⟩,
     ⟨some 8, none, .bin .and (.t 7) (.k (.int .u32 1))⟩,
     ⟨some 9, none, .bin .eql (.t 8) (.k (.int .u32 1))⟩,
     ⟨some 4, none, .mv (.t 9)⟩])
   (.keep [4]
    .ret))) }
structure N5 (R : Env) : Prop where
  o5 : R.Fn 5 c5
/-- umbra.umbralaw17.works -/
def c7 : IFn := { np := 0, rs := [.t 0], body :=
 (.seq
  (.ops [⟨some 0, none, .mv (.k (.bool false))⟩])
  (.seq
   (.ops [⟨some 1, none, .bslice 0 1 2 [.int .u32 0] [(0, .k (.int .u32 1)), (1, .k (.int .u32 4))]⟩,
     ⟨some 2, none, .call 4 [.t 1]⟩,
     ⟨some 3, none, .bin .eql (.t 2) (.k (.int .u32 5))⟩,
     ⟨some 4, none, .mv (.t 3)⟩,
     ⟨some 5, some (4, true), .call 6 [.k (.int .u32 1), .k (.int .u32 5)]⟩,
     ⟨some 6, none, .pick (.t 4) (.t 5) (.k (.bool false))⟩,
     ⟨some 7, none, .mv (.t 6)⟩,
     ⟨some 8, some (7, true), .call 6 [.k (.int .u32 2), .k (.int .u32 5)]⟩,
     ⟨some 9, some (7, true), .un .not (.t 8)⟩,
     ⟨some 10, none, .pick (.t 7) (.t 9) (.k (.bool false))⟩,
     ⟨some 0, none, .mv (.t 10)⟩])
   (.keep [0]
    .ret))) }
structure N7 (R : Env) : Prop where
  o7 : R.Fn 7 c7
  n4 : N4 R
  n6 : N6 R
/-- umbra.umbralaw17.LabelJoins -/
def c3 : IFn := { np := 3, rs := [.t 6], body :=
 (.seq
  (.ops [⟨some 6, none, .mv (.k (.bool false))⟩])
  (.seq
   (.ops [⟨some 13, none, .mv (.t 0)⟩,
     ⟨some 14, none, .mv (.t 0)⟩,
     ⟨some 15, none, .lenS (.t 14)⟩,
     ⟨some 16, none, .mm false [.t 15, .k (.int .i64 8)]⟩,
     ⟨some 17, none, .slcS 0 1 (.t 13) none (some (.t 16)) none⟩,
     ⟨some 0, none, .mv (.t 17)⟩])
   (.keep [0, 1, 2]
    (.seq
     (.ops [⟨some 18, none, .mv (.t 0)⟩,
       ⟨some 19, none, .call 4 [.t 18]⟩,
       ⟨some 7, none, .mv (.t 19)⟩])
     (.seq
      (.ops [⟨some 8, none, .mv (.k (.bool true))⟩])
      (.seq
       (.seq
        (.ops [⟨some 20, none, .mv (.k (.int .i64 0))⟩])
        (.keep [0, 1, 2, 7, 8, 20]
         (.block 0
          (.loop
           (.seq
            (.ops [⟨some 21, none, .bin .lss (.t 20) (.k (.int .i64 32))⟩])
            (.seq
             (.cond (.t 21)
              .skip
              (.exit 0))
             (.keep [0, 1, 2, 7, 8, 20]
              (.seq
               (.block 1
                (.seq
                 (.ops [⟨some 22, none, .mv (.t 20)⟩,
                   ⟨some 9, none, .mv (.t 22)⟩])
                 (.seq
                  (.ops [⟨some 10, none, .mv (.k (.bool false))⟩])
                  (.seq
                   (.seq
                    (.ops [⟨some 23, none, .mv (.t 0)⟩,
                      ⟨some 24, none, .lenS (.t 23)⟩,
                      ⟨some 25, none, .mv (.k (.int .i64 0))⟩])
                    (.keep [0, 1, 2, 7, 8, 9, 10, 20, 23, 24, 25]
                     (.block 2
                      (.loop
                       (.seq
                        (.ops [⟨some 26, none, .bin .lss (.t 25) (.t 24)⟩])
                        (.seq
                         (.cond (.t 26)
                          .skip
                          (.exit 2))
                         (.keep [0, 1, 2, 7, 8, 9, 10, 20, 23, 24, 25]
                          (.seq
                           (.block 3
                            (.seq
                             (.ops [⟨some 27, none, .idxS 1 (.t 23) (.t 25)⟩,
                               ⟨some 28, none, .load false 1 (.t 27)⟩,
                               ⟨some 12, none, .mv (.t 28)⟩])
                             (.ops [⟨some 29, none, .mv (.t 10)⟩,
                               ⟨some 30, none, .mv (.t 29)⟩,
                               ⟨some 31, some (30, false), .mv (.t 12)⟩,
                               ⟨some 32, some (30, false), .mv (.t 9)⟩,
                               ⟨some 33, some (30, false), .call 5 [.t 31, .t 32]⟩,
                               ⟨some 34, none, .pick (.t 30) (.k (.bool true)) (.t 33)⟩,
                               ⟨some 10, none, .mv (.t 34)⟩])))
                           (.keep [0, 1, 2, 7, 8, 9, 10, 20, 23, 24, 25]
                            (.ops [⟨some 35, none, .bin .add (.t 25) (.k (.int .i64 1))⟩,
                              ⟨some 25, none, .mv (.t 35)⟩]))))))))))
                   (.keep [0, 1, 2, 7, 8, 9, 10, 20]
                    (.seq
                     (.seq
                      (.ops [⟨some 36, none, .mv (.t 7)⟩,
                        ⟨some 37, none, .mv (.t 9)⟩,
                        ⟨some 38, none, .call 5 [.t 36, .t 37]⟩,
                        ⟨some 39, none, .mv (.t 10)⟩,
                        ⟨some 40, none, .eqb true (.t 38) (.t 39)⟩])
                      (.keep [0, 1, 2, 7, 8, 9, 20, 40]
                       (.cond (.t 40)
                        (.seq
                         (.ops [⟨some 6, none, .mv (.k (.bool false))⟩])
                         .ret)
                        .skip)))
                     (.keep [0, 1, 2, 7, 8, 9, 20]
                      (.ops [⟨some 41, none, .mv (.t 8)⟩,
                        ⟨some 42, none, .mv (.t 41)⟩,
                        ⟨some 43, some (42, true), .mv (.t 1)⟩,
                        ⟨some 44, some (42, true), .mv (.t 9)⟩,
                        ⟨some 45, some (42, true), .call 5 [.t 43, .t 44]⟩,
                        ⟨some 46, some (42, true), .un .not (.t 45)⟩,
                        ⟨some 47, some (42, true), .mv (.t 46)⟩,
                        ⟨some 48, some (47, false), .mv (.t 2)⟩,
                        ⟨some 49, some (47, false), .mv (.t 9)⟩,
                        ⟨some 50, some (47, false), .call 5 [.t 48, .t 49]⟩,
                        ⟨some 51, some (42, true), .pick (.t 47) (.k (.bool true)) (.t 50)⟩,
                        ⟨some 52, none, .pick (.t 42) (.t 51) (.k (.bool false))⟩,
                        ⟨some 8, none, .mv (.t 52)⟩]))))))))
               (.keep [0, 1, 2, 7, 8, 20]
                (.ops [⟨some 53, none, .bin .add (.t 20) (.k (.int .i64 1))⟩,
                  ⟨some 20, none, .mv (.t 53)⟩]))))))))))
       (.keep [1, 2, 8]
        (.seq
         (.ops [⟨some 54, none, .mv (.t 1)⟩,
           ⟨some 55, none, .mv (.t 2)⟩,
           ⟨some 56, none, .call 6 [.t 54, .t 55]⟩,
           ⟨some 57, none, .mv (.t 8)⟩,
           ⟨some 58, none, .eqb false (.t 56) (.t 57)⟩,
           ⟨some 59, none, .mv (.t 58)⟩,
           ⟨some 60, some (59, true), .call 4 [.k (.nils)]⟩,
           ⟨some 61, some (59, true), .bin .eql (.t 60) (.k (.int .u32 0))⟩,
           ⟨some 62, none, .pick (.t 59) (.t 61) (.k (.bool false))⟩,
           ⟨some 63, none, .mv (.t 62)⟩,
           ⟨some 64, some (63, true), .call 7 []⟩,
           ⟨some 65, none, .pick (.t 63) (.t 64) (.k (.bool false))⟩,
           ⟨some 6, none, .mv (.t 65)⟩])
         (.keep [6]
          .ret))))))))) }
structure N3 (R : Env) : Prop where
  o3 : R.Fn 3 c3
  n4 : N4 R
  n5 : N5 R
  n6 : N6 R
  n7 : N7 R
/-- umbra.umbralaw17.LabelLeast -/
def c8 : IFn := { np := 3, rs := [.t 6], body :=
 (.seq
  (.ops [⟨some 6, none, .mv (.k (.bool false))⟩])
  (.seq
   (.ops [⟨some 11, none, .mv (.t 0)⟩,
     ⟨some 12, none, .mv (.t 0)⟩,
     ⟨some 13, none, .lenS (.t 12)⟩,
     ⟨some 14, none, .mm false [.t 13, .k (.int .i64 8)]⟩,
     ⟨some 15, none, .slcS 0 1 (.t 11) none (some (.t 14)) none⟩,
     ⟨some 0, none, .mv (.t 15)⟩])
   (.keep [0, 1, 2]
    (.seq
     (.ops [⟨some 16, none, .mv (.t 0)⟩,
       ⟨some 17, none, .call 4 [.t 16]⟩,
       ⟨some 7, none, .mv (.t 17)⟩])
     (.seq
      (.ops [⟨some 8, none, .mv (.k (.bool true))⟩])
      (.seq
       (.seq
        (.ops [⟨some 18, none, .mv (.t 0)⟩,
          ⟨some 19, none, .lenS (.t 18)⟩,
          ⟨some 20, none, .mv (.k (.int .i64 0))⟩])
        (.keep [1, 2, 7, 8, 18, 19, 20]
         (.block 0
          (.loop
           (.seq
            (.ops [⟨some 21, none, .bin .lss (.t 20) (.t 19)⟩])
            (.seq
             (.cond (.t 21)
              .skip
              (.exit 0))
             (.keep [1, 2, 7, 8, 18, 19, 20]
              (.seq
               (.block 1
                (.seq
                 (.ops [⟨some 22, none, .idxS 1 (.t 18) (.t 20)⟩,
                   ⟨some 23, none, .load false 1 (.t 22)⟩,
                   ⟨some 10, none, .mv (.t 23)⟩])
                 (.seq
                  (.seq
                   (.ops [⟨some 24, none, .mv (.t 10)⟩,
                     ⟨some 25, none, .mv (.t 7)⟩,
                     ⟨some 26, none, .call 6 [.t 24, .t 25]⟩,
                     ⟨some 27, none, .un .not (.t 26)⟩])
                   (.cond (.t 27)
                    (.seq
                     (.ops [⟨some 6, none, .mv (.k (.bool false))⟩])
                     .ret)
                    .skip))
                  (.keep [1, 2, 7, 8, 10, 18, 19, 20]
                   (.ops [⟨some 28, none, .mv (.t 8)⟩,
                     ⟨some 29, none, .mv (.t 28)⟩,
                     ⟨some 30, some (29, true), .mv (.t 10)⟩,
                     ⟨some 31, some (29, true), .mv (.t 1)⟩,
                     ⟨some 32, some (29, true), .call 6 [.t 30, .t 31]⟩,
                     ⟨some 33, none, .pick (.t 29) (.t 32) (.k (.bool false))⟩,
                     ⟨some 8, none, .mv (.t 33)⟩])))))
               (.keep [1, 2, 7, 8, 18, 19, 20]
                (.ops [⟨some 34, none, .bin .add (.t 20) (.k (.int .i64 1))⟩,
                  ⟨some 20, none, .mv (.t 34)⟩]))))))))))
       (.keep [1, 2, 7, 8]
        (.seq
         (.seq
          (.ops [⟨some 35, none, .mv (.t 7)⟩,
            ⟨some 36, none, .mv (.t 1)⟩,
            ⟨some 37, none, .call 6 [.t 35, .t 36]⟩,
            ⟨some 38, none, .mv (.t 8)⟩,
            ⟨some 39, none, .eqb true (.t 37) (.t 38)⟩])
          (.keep [1, 2, 7, 39]
           (.cond (.t 39)
            (.seq
             (.ops [⟨some 6, none, .mv (.k (.bool false))⟩])
             .ret)
            .skip)))
         (.keep [1, 2, 7]
          (.seq
           (.seq
            (.ops [⟨some 40, none, .mv (.t 7)⟩,
              ⟨some 41, none, .mv (.t 1)⟩,
              ⟨some 42, none, .call 6 [.t 40, .t 41]⟩,
              ⟨some 43, none, .mv (.t 42)⟩,
              ⟨some 44, some (43, true), .mv (.t 1)⟩,
              ⟨some 45, some (43, true), .mv (.t 2)⟩,
              ⟨some 46, some (43, true), .call 6 [.t 44, .t 45]⟩,
              ⟨some 47, none, .pick (.t 43) (.t 46) (.k (.bool false))⟩,
              ⟨some 48, none, .mv (.t 47)⟩,
              ⟨some 49, some (48, true), .mv (.t 7)⟩,
              ⟨some 50, some (48, true), .mv (.t 2)⟩,
              ⟨some 51, some (48, true), .call 6 [.t 49, .t 50]⟩,
              ⟨some 52, some (48, true), .un .not (.t 51)⟩,
              ⟨some 53, none, .pick (.t 48) (.t 52) (.k (.bool false))⟩])
            (.keep [1, 2, 53]
             (.cond (.t 53)
              (.seq
               (.ops [⟨some 6, none, .mv (.k (.bool false))⟩])
               .ret)
              .skip)))
           (.keep [1, 2]
            (.seq
             (.ops [⟨some 54, none, .mv (.t 1)⟩,
               ⟨some 55, none, .mv (.t 2)⟩,
               ⟨some 56, none, .call 6 [.t 54, .t 55]⟩,
               ⟨some 57, none, .mv (.t 56)⟩,
               ⟨some 58, some (57, true), .mv (.t 2)⟩,
               ⟨some 59, some (57, true), .mv (.t 1)⟩,
               ⟨some 60, some (57, true), .call 6 [.t 58, .t 59]⟩,
               ⟨some 61, none, .pick (.t 57) (.t 60) (.k (.bool false))⟩,
               ⟨some 62, none, .mv (.t 1)⟩,
               ⟨some 63, none, .mv (.t 2)⟩,
               ⟨some 64, none, .bin .eql (.t 62) (.t 63)⟩,
               ⟨some 65, none, .eqb false (.t 61) (.t 64)⟩,
               ⟨some 66, none, .mv (.t 65)⟩,
               ⟨some 67, some (66, true), .call 7 []⟩,
               ⟨some 68, none, .pick (.t 66) (.t 67) (.k (.bool false))⟩,
               ⟨some 6, none, .mv (.t 68)⟩])
             (.keep [6]
              .ret))))))))))))) }
structure N8 (R : Env) : Prop where
  o8 : R.Fn 8 c8
  n4 : N4 R
  n6 : N6 R
  n7 : N7 R
/-- umbra.umbralaw17.LabelOrder -/
def c9 : IFn := { np := 3, rs := [.t 6], body :=
 (.seq
  (.ops [⟨some 6, none, .mv (.k (.bool false))⟩])
  (.seq
   (.ops [⟨some 7, none, .mv (.t 0)⟩,
     ⟨some 8, none, .mv (.t 1)⟩,
     ⟨some 9, none, .mv (.t 2)⟩,
     ⟨some 10, none, .bslice 0 1 3 [.int .u32 0] [(0, .t 7), (1, .t 8), (2, .t 9)]⟩,
     ⟨some 11, none, .call 4 [.t 10]⟩,
     ⟨some 12, none, .mv (.t 2)⟩,
     ⟨some 13, none, .mv (.t 0)⟩,
     ⟨some 14, none, .mv (.t 1)⟩,
     ⟨some 15, none, .bslice 0 1 3 [.int .u32 0] [(0, .t 12), (1, .t 13), (2, .t 14)]⟩,
     ⟨some 16, none, .call 4 [.t 15]⟩,
     ⟨some 17, none, .bin .eql (.t 11) (.t 16)⟩,
     ⟨some 18, none, .mv (.t 17)⟩,
     ⟨some 19, some (18, true), .mv (.t 0)⟩,
     ⟨some 20, some (18, true), .mv (.t 1)⟩,
     ⟨some 21, some (18, true), .mv (.t 2)⟩,
     ⟨some 22, some (18, true), .bslice 0 1 2 [.int .u32 0] [(0, .t 20), (1, .t 21)]⟩,
     ⟨some 23, some (18, true), .call 4 [.t 22]⟩,
     ⟨some 24, some (18, true), .bslice 0 1 2 [.int .u32 0] [(0, .t 19), (1, .t 23)]⟩,
     ⟨some 25, some (18, true), .call 4 [.t 24]⟩,
     ⟨some 26, some (18, true), .mv (.t 0)⟩,
     ⟨some 27, some (18, true), .mv (.t 1)⟩,
     ⟨some 28, some (18, true), .bslice 0 1 2 [.int .u32 0] [(0, .t 26), (1, .t 27)]⟩,
     ⟨some 29, some (18, true), .call 4 [.t 28]⟩,
     ⟨some 30, some (18, true), .mv (.t 2)⟩,
     ⟨some 31, some (18, true), .bslice 0 1 2 [.int .u32 0] [(0, .t 29), (1, .t 30)]⟩,
     ⟨some 32, some (18, true), .call 4 [.t 31]⟩,
     ⟨some 33, some (18, true), .bin .eql (.t 25) (.t 32)⟩,
     ⟨some 34, none, .pick (.t 18) (.t 33) (.k (.bool false))⟩,
     ⟨some 35, none, .mv (.t 34)⟩,
     ⟨some 36, some (35, true), .mv (.t 0)⟩,
     ⟨some 37, some (35, true), .mv (.t 0)⟩,
     ⟨some 38, some (35, true), .bslice 0 1 2 [.int .u32 0] [(0, .t 36), (1, .t 37)]⟩,
     ⟨some 39, some (35, true), .call 4 [.t 38]⟩,
     ⟨some 40, some (35, true), .mv (.t 0)⟩,
     ⟨some 41, some (35, true), .bin .eql (.t 39) (.t 40)⟩,
     ⟨some 42, none, .pick (.t 35) (.t 41) (.k (.bool false))⟩,
     ⟨some 43, none, .mv (.t 42)⟩,
     ⟨some 44, some (43, true), .call 7 []⟩,
     ⟨some 45, none, .pick (.t 43) (.t 44) (.k (.bool false))⟩,
     ⟨some 6, none, .mv (.t 45)⟩])
   (.keep [6]
    .ret))) }
structure N9 (R : Env) : Prop where
  o9 : R.Fn 9 c9
  n4 : N4 R
  n7 : N7 R
/-- umbra.umbralaw17.LabelMasks -/
def c10 : IFn := { np := 2, rs := [.t 4], body :=
 (.seq
  (.ops [⟨some 2, none, .box 1 (.t 0)⟩,
    ⟨some 4, none, .mv (.k (.bool false))⟩])
  (.seq
   (.ops [⟨some 6, none, .load true 8 (.t 2)⟩,
     ⟨some 7, none, .mv (.t 1)⟩,
     ⟨some 8, none, .call 11 [.t 6, .t 7]⟩,
     ⟨some 5, none, .mv (.t 8)⟩])
   (.seq
    (.seq
     (.ops [⟨some 9, none, .mv (.t 1)⟩,
       ⟨some 10, none, .bin .lss (.t 9) (.k (.int .i64 0))⟩,
       ⟨some 11, none, .mv (.t 10)⟩,
       ⟨some 12, some (11, false), .mv (.t 1)⟩,
       ⟨some 13, some (11, false), .bin .gtr (.t 12) (.k (.int .i64 7))⟩,
       ⟨some 14, none, .pick (.t 11) (.k (.bool true)) (.t 13)⟩])
     (.keep [1, 2, 5, 14]
      (.cond (.t 14)
       (.seq
        (.ops [⟨some 15, none, .mv (.t 5)⟩,
          ⟨some 16, none, .bin .eql (.t 15) (.k (.int .u8 0))⟩,
          ⟨some 17, none, .mv (.t 16)⟩,
          ⟨some 18, some (17, true), .load true 8 (.t 2)⟩,
          ⟨some 19, some (17, true), .mv (.t 1)⟩,
          ⟨some 20, some (17, true), .call 12 [.t 18, .t 19]⟩,
          ⟨some 21, some (17, true), .un .not (.t 20)⟩,
          ⟨some 22, none, .pick (.t 17) (.t 21) (.k (.bool false))⟩,
          ⟨some 23, none, .mv (.t 22)⟩,
          ⟨some 24, some (23, true), .call 7 []⟩,
          ⟨some 25, none, .pick (.t 23) (.t 24) (.k (.bool false))⟩,
          ⟨some 4, none, .mv (.t 25)⟩])
        (.keep [4]
         .ret))
       .skip)))
    (.keep [1, 2, 5]
     (.seq
      (.ops [⟨some 26, none, .mv (.t 5)⟩,
        ⟨some 27, none, .mv (.t 1)⟩,
        ⟨some 28, none, .idxA 8 1 (.t 2) (.t 27)⟩,
        ⟨some 29, none, .load false 1 (.t 28)⟩,
        ⟨some 30, none, .bin .eql (.t 26) (.t 29)⟩,
        ⟨some 31, none, .mv (.t 30)⟩,
        ⟨some 32, some (31, true), .load true 8 (.t 2)⟩,
        ⟨some 33, some (31, true), .mv (.t 1)⟩,
        ⟨some 34, some (31, true), .call 12 [.t 32, .t 33]⟩,
        ⟨some 35, some (31, true), .mv (.t 5)⟩,
        ⟨some 36, some (31, true), .bin .gtr (.t 35) (.k (.int .u8 0))⟩,
        ⟨some 37, some (31, true), .eqb false (.t 34) (.t 36)⟩,
        ⟨some 38, none, .pick (.t 31) (.t 37) (.k (.bool false))⟩,
        ⟨some 39, none, .mv (.t 38)⟩,
        ⟨some 40, some (39, true), .call 7 []⟩,
        ⟨some 41, none, .pick (.t 39) (.t 40) (.k (.bool false))⟩,
        ⟨some 4, none, .mv (.t 41)⟩])
      (.keep [4]
       .ret)))))) }
structure N10 (R : Env) : Prop where
  o10 : R.Fn 10 c10
  n7 : N7 R
  n11 : N11 R
  n12 : N12 R
/-- umbra.umbralaw17.LabelLicences -/
def c13 : IFn := { np := 3, rs := [.t 6], body :=
 (.seq
  (.ops [⟨some 6, none, .mv (.k (.bool false))⟩])
  (.seq
   (.ops [⟨some 17, none, .mv (.t 2)⟩,
     ⟨some 18, none, .mv (.t 2)⟩,
     ⟨some 19, none, .lenS (.t 18)⟩,
     ⟨some 20, none, .mm false [.t 19, .k (.int .i64 8)]⟩,
     ⟨some 21, none, .slcS 2 15 (.t 17) none (some (.t 20)) none⟩,
     ⟨some 2, none, .mv (.t 21)⟩])
   (.keep [0, 1, 2]
    (.seq
     (.ops [⟨some 23, none, .mv (.t 0)⟩,
       ⟨some 24, none, .mv (.t 1)⟩,
       ⟨some 25, none, .mv (.t 2)⟩,
       ⟨some 26, none, .call 14 [.t 23, .t 24, .t 25]⟩,
       ⟨some 22, none, .mv (.t 26)⟩,
       ⟨some 27, none, .ext (.t 22) 0⟩,
       ⟨some 28, none, .ext (.t 22) 1⟩,
       ⟨some 7, none, .mv (.t 27)⟩,
       ⟨some 8, none, .mv (.t 28)⟩])
     (.keep [0, 1, 2, 7, 8]
      (.seq
       (.ops [⟨some 29, none, .mv (.t 0)⟩,
         ⟨some 30, none, .mv (.t 1)⟩,
         ⟨some 31, none, .mv (.t 7)⟩,
         ⟨some 32, none, .mv (.t 8)⟩,
         ⟨some 33, none, .mv (.t 0)⟩,
         ⟨some 34, none, .bin .sub (.t 33) (.k (.int .u32 1))⟩,
         ⟨some 35, none, .mv (.t 1)⟩,
         ⟨some 36, none, .bin .add (.t 35) (.k (.int .u32 1))⟩,
         ⟨some 37, none, .mv (.t 7)⟩,
         ⟨some 38, none, .bin .sub (.t 37) (.k (.int .u32 1))⟩,
         ⟨some 39, none, .mv (.t 8)⟩,
         ⟨some 40, none, .bin .add (.t 39) (.k (.int .u32 1))⟩,
         ⟨some 41, none, .bslice 0 1 10 [.int .u32 0] [(0, .k (.int .u32 0)), (1, .k (.int .u32 4294967295)), (2, .t 29), (3, .t 30), (4, .t 31), (5, .t 32), (6, .t 34), (7, .t 36), (8, .t 38), (9, .t 40)]⟩,
         ⟨some 9, none, .mv (.t 41)⟩])
       (.keep [0, 1, 2, 7, 8, 9]
        (.seq
         (.seq
          (.ops [⟨some 42, none, .mv (.t 2)⟩,
            ⟨some 43, none, .lenS (.t 42)⟩,
            ⟨some 44, none, .mv (.k (.int .i64 0))⟩])
          (.keep [0, 1, 2, 7, 8, 9, 42, 43, 44]
           (.block 0
            (.loop
             (.seq
              (.ops [⟨some 45, none, .bin .lss (.t 44) (.t 43)⟩])
              (.seq
               (.cond (.t 45)
                .skip
                (.exit 0))
               (.keep [0, 1, 2, 7, 8, 9, 42, 43, 44]
                (.seq
                 (.block 1
                  (.seq
                   (.ops [⟨some 46, none, .idxS 15 (.t 42) (.t 44)⟩,
                     ⟨some 47, none, .load true 15 (.t 46)⟩,
                     ⟨some 11, none, .alloc 2 [.int .u64 0, .int .i64 0, .int .u32 0, .int .u8 0, .int .u8 0, .int .u8 0, .int .u8 0, .int .u8 0, .int .u8 0, .int .u8 0, .int .u8 0, .int .u32 0, .int .u32 0, .int .i64 0, .int .i64 0]⟩,
                     ⟨none, none, .store 15 (.t 11) (.t 47)⟩])
                   (.ops [⟨some 48, none, .mv (.t 9)⟩,
                     ⟨some 49, none, .fldA 11 (.t 11)⟩,
                     ⟨some 50, none, .load false 1 (.t 49)⟩,
                     ⟨some 51, none, .fldA 12 (.t 11)⟩,
                     ⟨some 52, none, .load false 1 (.t 51)⟩,
                     ⟨some 53, none, .fldA 11 (.t 11)⟩,
                     ⟨some 54, none, .load false 1 (.t 53)⟩,
                     ⟨some 55, none, .bin .sub (.t 54) (.k (.int .u32 1))⟩,
                     ⟨some 56, none, .fldA 12 (.t 11)⟩,
                     ⟨some 57, none, .load false 1 (.t 56)⟩,
                     ⟨some 58, none, .bin .add (.t 57) (.k (.int .u32 1))⟩,
                     ⟨some 59, none, .bslice 0 1 4 [.int .u32 0] [(0, .t 50), (1, .t 52), (2, .t 55), (3, .t 58)]⟩,
                     ⟨some 60, none, .app 0 1 (.t 48) (.t 59)⟩,
                     ⟨some 9, none, .mv (.t 60)⟩])))
                 (.keep [0, 1, 2, 7, 8, 9, 42, 43, 44]
                  (.ops [⟨some 61, none, .bin .add (.t 44) (.k (.int .i64 1))⟩,
                    ⟨some 44, none, .mv (.t 61)⟩]))))))))))
         (.keep [0, 1, 2, 7, 8, 9]
          (.seq
           (.seq
            (.ops [⟨some 62, none, .mv (.t 9)⟩,
              ⟨some 63, none, .lenS (.t 62)⟩,
              ⟨some 64, none, .mv (.k (.int .i64 0))⟩])
            (.keep [0, 1, 2, 7, 8, 62, 63, 64]
             (.block 2
              (.loop
               (.seq
                (.ops [⟨some 65, none, .bin .lss (.t 64) (.t 63)⟩])
                (.seq
                 (.cond (.t 65)
                  .skip
                  (.exit 2))
                 (.keep [0, 1, 2, 7, 8, 62, 63, 64]
                  (.seq
                   (.block 3
                    (.seq
                     (.ops [⟨some 66, none, .idxS 1 (.t 62) (.t 64)⟩,
                       ⟨some 67, none, .load false 1 (.t 66)⟩,
                       ⟨some 13, none, .mv (.t 67)⟩])
                     (.seq
                      (.ops [⟨some 68, none, .mv (.t 13)⟩,
                        ⟨some 69, none, .mv (.t 0)⟩,
                        ⟨some 70, none, .bin .geq (.t 68) (.t 69)⟩,
                        ⟨some 71, none, .mv (.t 70)⟩,
                        ⟨some 72, some (71, true), .mv (.t 13)⟩,
                        ⟨some 73, some (71, true), .mv (.t 1)⟩,
                        ⟨some 74, some (71, true), .bin .leq (.t 72) (.t 73)⟩,
                        ⟨some 75, none, .pick (.t 71) (.t 74) (.k (.bool false))⟩,
                        ⟨some 14, none, .mv (.t 75)⟩])
                      (.keep [0, 1, 2, 7, 8, 13, 14, 62, 63, 64]
                       (.seq
                        (.seq
                         (.ops [⟨some 76, none, .mv (.t 2)⟩,
                           ⟨some 77, none, .lenS (.t 76)⟩,
                           ⟨some 78, none, .mv (.k (.int .i64 0))⟩])
                         (.keep [0, 1, 2, 7, 8, 13, 14, 62, 63, 64, 76, 77, 78]
                          (.block 4
                           (.loop
                            (.seq
                             (.ops [⟨some 79, none, .bin .lss (.t 78) (.t 77)⟩])
                             (.seq
                              (.cond (.t 79)
                               .skip
                               (.exit 4))
                              (.keep [0, 1, 2, 7, 8, 13, 14, 62, 63, 64, 76, 77, 78]
                               (.seq
                                (.block 5
                                 (.seq
                                  (.ops [⟨some 80, none, .idxS 15 (.t 76) (.t 78)⟩,
                                    ⟨some 81, none, .load true 15 (.t 80)⟩,
                                    ⟨some 16, none, .alloc 2 [.int .u64 0, .int .i64 0, .int .u32 0, .int .u8 0, .int .u8 0, .int .u8 0, .int .u8 0, .int .u8 0, .int .u8 0, .int .u8 0, .int .u8 0, .int .u32 0, .int .u32 0, .int .i64 0, .int .i64 0]⟩,
                                    ⟨none, none, .store 15 (.t 16) (.t 81)⟩])
                                  (.seq
                                   (.seq
                                    (.draw [0, 1, 0, 4, 0, 31, 0, 0, 128, 448, 1023, 2047, 2047, 6143, 16383, 32767, 65535] [[16], [82], [16], [84], [13], [83, 85, 86], [13], [16], [89], [88, 90], [91], [13], [16], [94], [93, 95], [92, 96], [87, 97]] [⟨some 82, none, .fldA 11 (.t 16)⟩,
                                      ⟨some 83, none, .load false 1 (.t 82)⟩,
                                      ⟨some 84, none, .fldA 12 (.t 16)⟩,
                                      ⟨some 85, none, .load false 1 (.t 84)⟩,
                                      ⟨some 86, none, .mv (.t 13)⟩,
                                      ⟨some 87, none, .call 15 [.t 83, .t 85, .t 86]⟩,
                                      ⟨some 88, none, .mv (.t 13)⟩,
                                      ⟨some 89, none, .fldA 11 (.t 16)⟩,
                                      ⟨some 90, none, .load false 1 (.t 89)⟩,
                                      ⟨some 91, none, .bin .geq (.t 88) (.t 90)⟩,
                                      ⟨some 92, none, .mv (.t 91)⟩,
                                      ⟨some 93, some (92, true), .mv (.t 13)⟩,
                                      ⟨some 94, some (92, true), .fldA 12 (.t 16)⟩,
                                      ⟨some 95, some (92, true), .load false 1 (.t 94)⟩,
                                      ⟨some 96, some (92, true), .bin .leq (.t 93) (.t 95)⟩,
                                      ⟨some 97, none, .pick (.t 92) (.t 96) (.k (.bool false))⟩,
                                      ⟨some 98, none, .eqb true (.t 87) (.t 97)⟩])
                                    (.keep [0, 1, 2, 7, 8, 13, 14, 16, 62, 63, 64, 76, 77, 78, 98]
                                     (.cond (.t 98)
                                      (.seq
                                       (.ops [⟨some 6, none, .mv (.k (.bool false))⟩])
                                       .ret)
                                      .skip)))
                                   (.keep [0, 1, 2, 7, 8, 13, 14, 16, 62, 63, 64, 76, 77, 78]
                                    (.ops [⟨some 99, none, .mv (.t 14)⟩,
                                      ⟨some 100, none, .mv (.t 99)⟩,
                                      ⟨some 101, some (100, true), .mv (.t 13)⟩,
                                      ⟨some 102, some (100, true), .fldA 11 (.t 16)⟩,
                                      ⟨some 103, some (100, true), .load false 1 (.t 102)⟩,
                                      ⟨some 104, some (100, true), .bin .geq (.t 101) (.t 103)⟩,
                                      ⟨some 105, none, .pick (.t 100) (.t 104) (.k (.bool false))⟩,
                                      ⟨some 106, none, .mv (.t 105)⟩,
                                      ⟨some 107, some (106, true), .mv (.t 13)⟩,
                                      ⟨some 108, some (106, true), .fldA 12 (.t 16)⟩,
                                      ⟨some 109, some (106, true), .load false 1 (.t 108)⟩,
                                      ⟨some 110, some (106, true), .bin .leq (.t 107) (.t 109)⟩,
                                      ⟨some 111, none, .pick (.t 106) (.t 110) (.k (.bool false))⟩,
                                      ⟨some 14, none, .mv (.t 111)⟩])))))
                                (.keep [0, 1, 2, 7, 8, 13, 14, 62, 63, 64, 76, 77, 78]
                                 (.ops [⟨some 112, none, .bin .add (.t 78) (.k (.int .i64 1))⟩,
                                   ⟨some 78, none, .mv (.t 112)⟩]))))))))))
                        (.keep [0, 1, 2, 7, 8, 13, 14, 62, 63, 64]
                         (.seq
                          (.ops [⟨some 113, none, .mv (.t 7)⟩,
                            ⟨some 114, none, .mv (.t 8)⟩,
                            ⟨some 115, none, .mv (.t 13)⟩,
                            ⟨some 116, none, .call 15 [.t 113, .t 114, .t 115]⟩,
                            ⟨some 117, none, .mv (.t 14)⟩,
                            ⟨some 118, none, .eqb true (.t 116) (.t 117)⟩])
                          (.keep [0, 1, 2, 7, 8, 62, 63, 64, 118]
                           (.cond (.t 118)
                            (.seq
                             (.ops [⟨some 6, none, .mv (.k (.bool false))⟩])
                             .ret)
                            .skip)))))))))
                   (.keep [0, 1, 2, 7, 8, 62, 63, 64]
                    (.ops [⟨some 119, none, .bin .add (.t 64) (.k (.int .i64 1))⟩,
                      ⟨some 64, none, .mv (.t 119)⟩]))))))))))
           (.keep []
            (.seq
             (.ops [⟨some 120, none, .call 7 []⟩,
               ⟨some 6, none, .mv (.t 120)⟩])
             .ret)))))))))))) }
structure N13 (R : Env) : Prop where
  o13 : R.Fn 13 c13
  n7 : N7 R
  n14 : N14 R
  n15 : N15 R
end Go.UM

/- Package label: what each function hands back. -/

namespace Go.UM
open Go.AM
set_option maxRecDepth 4000

theorem below_c {R : Env} (h : N6 R) (x y : Int) : R.Pc 6 [.int .u32 x, .int .u32 y] (.bool (bit2 .andNot .u32 x y == 0)) :=
  h.o6.enter 60 rfl fun X b hfit hp => by
    repeat ((intro _u; clear _u); first
      | (with_reducible refine acnd_tt ?_)
      | (with_reducible refine acnd_ff ?_)
      | ((with_reducible refine iwr_in ?_ ?_); · (simp only [inI]; omega))
      | ((with_reducible refine need_i ?_ ?_); · (first | omega | (simp <;> omega))))
    intro _u; clear _u
    refine IRet.of ?_
    all_goals repeat' (first | exact True.intro | refine And.intro ?_ ?_ | (intro _u; clear _u) | (with_reducible refine fzEs_same ?_ ?_ ?_) | (with_reducible refine mtEs_same ?_ ?_))
    all_goals first | (with_reducible rfl) | omega | (simp; done) | (simp only [AV.namesL, AV.names, List.append_nil]; done) | (simp [AV.namesL]; done) | exact Or.inl (by decide) | exact Or.inr (by simp [AV.namesL, AV.names]) | skip

theorem or_c {R : Env} (h : N17 R) (x y : Int) : R.Pc 17 [.int .u32 x, .int .u32 y] (.int .u32 (bit2 .or .u32 x y)) :=
  h.o17.enter 60 rfl fun X b hfit hp => by
    repeat ((intro _u; clear _u); first
      | (with_reducible refine acnd_tt ?_)
      | (with_reducible refine acnd_ff ?_)
      | ((with_reducible refine iwr_in ?_ ?_); · (simp only [inI]; omega))
      | ((with_reducible refine need_i ?_ ?_); · (first | omega | (simp <;> omega))))
    intro _u; clear _u
    refine IRet.of ?_
    all_goals repeat' (first | exact True.intro | refine And.intro ?_ ?_ | (intro _u; clear _u) | (with_reducible refine fzEs_same ?_ ?_ ?_) | (with_reducible refine mtEs_same ?_ ?_))
    all_goals first | (with_reducible rfl) | omega | (simp; done) | (simp only [AV.namesL, AV.names, List.append_nil]; done) | (simp [AV.namesL]; done) | exact Or.inl (by decide) | exact Or.inr (by simp [AV.namesL, AV.names]) | skip

def bits (m : List Int) (l : Int) : Int := if l < 0 ∨ 8 ≤ l then 0 else m.getD l.toNat 0

theorem bits_c {R : Env} (h : N11 R) (m0 m1 m2 m3 m4 m5 m6 m7 l : Int) : R.Pc 11 [.agg [.int .u8 m0, .int .u8 m1, .int .u8 m2, .int .u8 m3, .int .u8 m4, .int .u8 m5, .int .u8 m6, .int .u8 m7], .int .i64 l] (.int .u8 (bits [m0, m1, m2, m3, m4, m5, m6, m7] l)) :=
  h.o11.enter 60 rfl fun X b hfit hp => by
    repeat ((intro _u; clear _u); first
      | (with_reducible refine acnd_tt ?_)
      | (with_reducible refine acnd_ff ?_)
      | ((with_reducible refine iwr_in ?_ ?_); · (simp only [inI]; omega))
      | ((with_reducible refine need_i ?_ ?_); · (first | omega | (simp <;> omega))))
    intro _u; clear _u
    refine acnd_i (fun h1 => ?_) (fun h1 => ?_)
    all_goals repeat (first | simp only [decide_eq_true_eq] at h1 | simp only [decide_eq_false_iff_not] at h1 | simp only [beq_iff_eq] at h1 | simp only [bne_iff_ne] at h1 | simp only [beq_eq_false_iff_ne] at h1 | simp only [bne_eq_false_iff_eq] at h1 | simp only [Bool.not_eq_true'] at h1 | simp only [Bool.not_eq_false'] at h1 | simp only [Int.not_lt] at h1 | simp only [Int.not_le] at h1 | simp only [Bool.and_eq_true] at h1 | simp only [Bool.or_eq_true] at h1 | simp only [gt_iff_lt] at h1 | simp only [ge_iff_le] at h1 | simp only [ne_eq] at h1 | simp only [Decidable.not_not] at h1)
    · repeat ((intro _u; clear _u); first
        | (with_reducible refine acnd_tt ?_)
        | (with_reducible refine acnd_ff ?_)
        | ((with_reducible refine iwr_in ?_ ?_); · (simp only [inI]; omega))
        | ((with_reducible refine need_i ?_ ?_); · (first | omega | (simp <;> omega))))
      intro _u; clear _u
      refine IRet.of ?_
      all_goals repeat' (first | exact True.intro | refine And.intro ?_ ?_ | (intro _u; clear _u) | (with_reducible refine fzEs_same ?_ ?_ ?_) | (with_reducible refine mtEs_same ?_ ?_))
      all_goals first | (with_reducible rfl) | omega | (simp; done) | (simp only [AV.namesL, AV.names, List.append_nil]; done) | (simp [AV.namesL]; done) | exact Or.inl (by decide) | exact Or.inr (by simp [AV.namesL, AV.names]) | skip
      simp [bits, h1]
    · repeat ((intro _u; clear _u); first
        | (with_reducible refine acnd_tt ?_)
        | (with_reducible refine acnd_ff ?_)
        | ((with_reducible refine iwr_in ?_ ?_); · (simp only [inI]; omega))
        | ((with_reducible refine need_i ?_ ?_); · (first | omega | (simp <;> omega))))
      intro _u; clear _u
      refine acnd_i (fun h2 => ?_) (fun h2 => ?_)
      all_goals repeat (first | simp only [decide_eq_true_eq] at h2 | simp only [decide_eq_false_iff_not] at h2 | simp only [beq_iff_eq] at h2 | simp only [bne_iff_ne] at h2 | simp only [beq_eq_false_iff_ne] at h2 | simp only [bne_eq_false_iff_eq] at h2 | simp only [Bool.not_eq_true'] at h2 | simp only [Bool.not_eq_false'] at h2 | simp only [Int.not_lt] at h2 | simp only [Int.not_le] at h2 | simp only [Bool.and_eq_true] at h2 | simp only [Bool.or_eq_true] at h2 | simp only [gt_iff_lt] at h2 | simp only [ge_iff_le] at h2 | simp only [ne_eq] at h2 | simp only [Decidable.not_not] at h2)
      · repeat ((intro _u; clear _u); first
          | (with_reducible refine acnd_tt ?_)
          | (with_reducible refine acnd_ff ?_)
          | ((with_reducible refine iwr_in ?_ ?_); · (simp only [inI]; omega))
          | ((with_reducible refine need_i ?_ ?_); · (first | omega | (simp <;> omega))))
        intro _u; clear _u
        refine IRet.of ?_
        all_goals repeat' (first | exact True.intro | refine And.intro ?_ ?_ | (intro _u; clear _u) | (with_reducible refine fzEs_same ?_ ?_ ?_) | (with_reducible refine mtEs_same ?_ ?_))
        all_goals first | (with_reducible rfl) | omega | (simp; done) | (simp only [AV.namesL, AV.names, List.append_nil]; done) | (simp [AV.namesL]; done) | exact Or.inl (by decide) | exact Or.inr (by simp [AV.namesL, AV.names]) | skip
        simp [bits, h2]
      · repeat ((intro _u; clear _u); first
          | (with_reducible refine acnd_tt ?_)
          | (with_reducible refine acnd_ff ?_)
          | ((with_reducible refine iwr_in ?_ ?_); · (simp only [inI]; omega))
          | ((with_reducible refine need_i ?_ ?_); · (first | omega | (simp <;> omega))))
        obtain h3 | h3 | h3 | h3 | h3 | h3 | h3 | h3 : l = 0 ∨ l = 1 ∨ l = 2 ∨ l = 3 ∨ l = 4 ∨ l = 5 ∨ l = 6 ∨ l = 7 := by omega
        all_goals subst h3; intro _u; clear _u
        · refine aix_n 0 rfl rfl ?_
          repeat ((intro _u; clear _u); first
            | (with_reducible refine acnd_tt ?_)
            | (with_reducible refine acnd_ff ?_)
            | ((with_reducible refine iwr_in ?_ ?_); · (simp only [inI]; omega))
            | ((with_reducible refine need_i ?_ ?_); · (first | omega | (simp <;> omega))))
          intro _u; clear _u
          refine IRet.of ?_
          all_goals repeat' (first | exact True.intro | refine And.intro ?_ ?_ | (intro _u; clear _u) | (with_reducible refine fzEs_same ?_ ?_ ?_) | (with_reducible refine mtEs_same ?_ ?_))
          all_goals first | (with_reducible rfl) | omega | (simp; done) | (simp only [AV.namesL, AV.names, List.append_nil]; done) | (simp [AV.namesL]; done) | exact Or.inl (by decide) | exact Or.inr (by simp [AV.namesL, AV.names]) | skip
          rfl
        · refine aix_n 1 rfl rfl ?_
          repeat ((intro _u; clear _u); first
            | (with_reducible refine acnd_tt ?_)
            | (with_reducible refine acnd_ff ?_)
            | ((with_reducible refine iwr_in ?_ ?_); · (simp only [inI]; omega))
            | ((with_reducible refine need_i ?_ ?_); · (first | omega | (simp <;> omega))))
          intro _u; clear _u
          refine IRet.of ?_
          all_goals repeat' (first | exact True.intro | refine And.intro ?_ ?_ | (intro _u; clear _u) | (with_reducible refine fzEs_same ?_ ?_ ?_) | (with_reducible refine mtEs_same ?_ ?_))
          all_goals first | (with_reducible rfl) | omega | (simp; done) | (simp only [AV.namesL, AV.names, List.append_nil]; done) | (simp [AV.namesL]; done) | exact Or.inl (by decide) | exact Or.inr (by simp [AV.namesL, AV.names]) | skip
          rfl
        · refine aix_n 2 rfl rfl ?_
          repeat ((intro _u; clear _u); first
            | (with_reducible refine acnd_tt ?_)
            | (with_reducible refine acnd_ff ?_)
            | ((with_reducible refine iwr_in ?_ ?_); · (simp only [inI]; omega))
            | ((with_reducible refine need_i ?_ ?_); · (first | omega | (simp <;> omega))))
          intro _u; clear _u
          refine IRet.of ?_
          all_goals repeat' (first | exact True.intro | refine And.intro ?_ ?_ | (intro _u; clear _u) | (with_reducible refine fzEs_same ?_ ?_ ?_) | (with_reducible refine mtEs_same ?_ ?_))
          all_goals first | (with_reducible rfl) | omega | (simp; done) | (simp only [AV.namesL, AV.names, List.append_nil]; done) | (simp [AV.namesL]; done) | exact Or.inl (by decide) | exact Or.inr (by simp [AV.namesL, AV.names]) | skip
          rfl
        · refine aix_n 3 rfl rfl ?_
          repeat ((intro _u; clear _u); first
            | (with_reducible refine acnd_tt ?_)
            | (with_reducible refine acnd_ff ?_)
            | ((with_reducible refine iwr_in ?_ ?_); · (simp only [inI]; omega))
            | ((with_reducible refine need_i ?_ ?_); · (first | omega | (simp <;> omega))))
          intro _u; clear _u
          refine IRet.of ?_
          all_goals repeat' (first | exact True.intro | refine And.intro ?_ ?_ | (intro _u; clear _u) | (with_reducible refine fzEs_same ?_ ?_ ?_) | (with_reducible refine mtEs_same ?_ ?_))
          all_goals first | (with_reducible rfl) | omega | (simp; done) | (simp only [AV.namesL, AV.names, List.append_nil]; done) | (simp [AV.namesL]; done) | exact Or.inl (by decide) | exact Or.inr (by simp [AV.namesL, AV.names]) | skip
          rfl
        · refine aix_n 4 rfl rfl ?_
          repeat ((intro _u; clear _u); first
            | (with_reducible refine acnd_tt ?_)
            | (with_reducible refine acnd_ff ?_)
            | ((with_reducible refine iwr_in ?_ ?_); · (simp only [inI]; omega))
            | ((with_reducible refine need_i ?_ ?_); · (first | omega | (simp <;> omega))))
          intro _u; clear _u
          refine IRet.of ?_
          all_goals repeat' (first | exact True.intro | refine And.intro ?_ ?_ | (intro _u; clear _u) | (with_reducible refine fzEs_same ?_ ?_ ?_) | (with_reducible refine mtEs_same ?_ ?_))
          all_goals first | (with_reducible rfl) | omega | (simp; done) | (simp only [AV.namesL, AV.names, List.append_nil]; done) | (simp [AV.namesL]; done) | exact Or.inl (by decide) | exact Or.inr (by simp [AV.namesL, AV.names]) | skip
          rfl
        · refine aix_n 5 rfl rfl ?_
          repeat ((intro _u; clear _u); first
            | (with_reducible refine acnd_tt ?_)
            | (with_reducible refine acnd_ff ?_)
            | ((with_reducible refine iwr_in ?_ ?_); · (simp only [inI]; omega))
            | ((with_reducible refine need_i ?_ ?_); · (first | omega | (simp <;> omega))))
          intro _u; clear _u
          refine IRet.of ?_
          all_goals repeat' (first | exact True.intro | refine And.intro ?_ ?_ | (intro _u; clear _u) | (with_reducible refine fzEs_same ?_ ?_ ?_) | (with_reducible refine mtEs_same ?_ ?_))
          all_goals first | (with_reducible rfl) | omega | (simp; done) | (simp only [AV.namesL, AV.names, List.append_nil]; done) | (simp [AV.namesL]; done) | exact Or.inl (by decide) | exact Or.inr (by simp [AV.namesL, AV.names]) | skip
          rfl
        · refine aix_n 6 rfl rfl ?_
          repeat ((intro _u; clear _u); first
            | (with_reducible refine acnd_tt ?_)
            | (with_reducible refine acnd_ff ?_)
            | ((with_reducible refine iwr_in ?_ ?_); · (simp only [inI]; omega))
            | ((with_reducible refine need_i ?_ ?_); · (first | omega | (simp <;> omega))))
          intro _u; clear _u
          refine IRet.of ?_
          all_goals repeat' (first | exact True.intro | refine And.intro ?_ ?_ | (intro _u; clear _u) | (with_reducible refine fzEs_same ?_ ?_ ?_) | (with_reducible refine mtEs_same ?_ ?_))
          all_goals first | (with_reducible rfl) | omega | (simp; done) | (simp only [AV.namesL, AV.names, List.append_nil]; done) | (simp [AV.namesL]; done) | exact Or.inl (by decide) | exact Or.inr (by simp [AV.namesL, AV.names]) | skip
          rfl
        · refine aix_n 7 rfl rfl ?_
          repeat ((intro _u; clear _u); first
            | (with_reducible refine acnd_tt ?_)
            | (with_reducible refine acnd_ff ?_)
            | ((with_reducible refine iwr_in ?_ ?_); · (simp only [inI]; omega))
            | ((with_reducible refine need_i ?_ ?_); · (first | omega | (simp <;> omega))))
          intro _u; clear _u
          refine IRet.of ?_
          all_goals repeat' (first | exact True.intro | refine And.intro ?_ ?_ | (intro _u; clear _u) | (with_reducible refine fzEs_same ?_ ?_ ?_) | (with_reducible refine mtEs_same ?_ ?_))
          all_goals first | (with_reducible rfl) | omega | (simp; done) | (simp only [AV.namesL, AV.names, List.append_nil]; done) | (simp [AV.namesL]; done) | exact Or.inl (by decide) | exact Or.inr (by simp [AV.namesL, AV.names]) | skip
          rfl

theorem sees_c {R : Env} (h : N12 R) (m0 m1 m2 m3 m4 m5 m6 m7 l : Int) : R.Pc 12 [.agg [.int .u8 m0, .int .u8 m1, .int .u8 m2, .int .u8 m3, .int .u8 m4, .int .u8 m5, .int .u8 m6, .int .u8 m7], .int .i64 l] (.bool (bits [m0, m1, m2, m3, m4, m5, m6, m7] l != 0)) :=
  h.o12.enter 60 rfl fun X b hfit hp => by
    repeat ((intro _u; clear _u); first
      | (with_reducible refine acnd_tt ?_)
      | (with_reducible refine acnd_ff ?_)
      | ((with_reducible refine iwr_in ?_ ?_); · (simp only [inI]; omega))
      | ((with_reducible refine need_i ?_ ?_); · (first | omega | (simp <;> omega))))
    intro _u; clear _u
    refine ICall.pure h.n11.o11.hb (bits_c h.n11 m0 m1 m2 m3 m4 m5 m6 m7 l) rfl ?_
    repeat ((intro _u; clear _u); first
      | (with_reducible refine acnd_tt ?_)
      | (with_reducible refine acnd_ff ?_)
      | ((with_reducible refine iwr_in ?_ ?_); · (simp only [inI]; omega))
      | ((with_reducible refine need_i ?_ ?_); · (first | omega | (simp <;> omega))))
    intro _u; clear _u
    refine IRet.of ?_
    all_goals repeat' (first | exact True.intro | refine And.intro ?_ ?_ | (intro _u; clear _u) | (with_reducible refine fzEs_same ?_ ?_ ?_) | (with_reducible refine mtEs_same ?_ ?_))
    all_goals first | (with_reducible rfl) | omega | (simp; done) | (simp only [AV.namesL, AV.names, List.append_nil]; done) | (simp [AV.namesL]; done) | exact Or.inl (by decide) | exact Or.inr (by simp [AV.namesL, AV.names]) | skip

def slc32 (l : List Int) : AV := .isl 1 (l.map fun x => [.int .u32 x])

theorem foldl_take_succ' {α β : Type} (g : β → α → β) (s : β) (l : List α) (k : Nat) {x : α} (h : l[k]? = some x) : (l.take (k + 1)).foldl g s = g ((l.take k).foldl g s) x := by
  rw [List.take_add_one, h, List.foldl_append]; rfl

theorem fold_c {R : Env} (h : N16 R) {f : Nat} {g : Int → Int → Int} (hb : HasBody R.P f) (hg : ∀ x y, PCalls R.P f [.int .u32 x, .int .u32 y] (.int .u32 (g x y))) (s : Int) (l : List Int) (hl : (l.length : Int) ≤ 9223372036854775807) :
    R.Pc 16 [.int .u32 s, slc32 l, .clo f []] (.int .u32 (l.foldl g s)) :=
  h.o16.enter 60 rfl fun X b hfit hp => by
    repeat ((intro _u; clear _u); first
      | (with_reducible refine acnd_tt ?_)
      | (with_reducible refine acnd_ff ?_)
      | ((with_reducible refine iwr_in ?_ ?_); · (simp only [inI]; omega))
      | ((with_reducible refine need_i ?_ ?_); · (first | omega | (simp <;> omega))))
    intro _u; clear _u
    refine ILoop.inv 60 (fun k : Nat => k ≤ l.length) (fun k => ⟨[(0, .int .u32 ((l.take k).foldl g s)), (2, .clo f []), (9, slc32 l), (10, .int .i64 l.length), (11, .int .i64 k)], [], 0⟩) (fun k => l.length - k) (0) ?_ ⟨hp, ?_, ?_⟩ ?_
    · exact Nat.zero_le _
    · all_goals repeat' (first | exact True.intro | refine And.intro ?_ ?_ | (intro _u; clear _u) | (with_reducible refine fzEs_same ?_ ?_ ?_) | (with_reducible refine mtEs_same ?_ ?_))
      all_goals first | (with_reducible rfl) | omega | (simp; done) | (simp only [AV.namesL, AV.names, List.append_nil]; done) | (simp [AV.namesL]; done) | exact Or.inl (by decide) | exact Or.inr (by simp [AV.namesL, AV.names]) | skip
    · all_goals repeat' (first | exact True.intro | refine And.intro ?_ ?_ | (intro _u; clear _u) | (with_reducible refine fzEs_same ?_ ?_ ?_) | (with_reducible refine mtEs_same ?_ ?_))
      all_goals first | (with_reducible rfl) | omega | (simp; done) | (simp only [AV.namesL, AV.names, List.append_nil]; done) | (simp [AV.namesL]; done) | exact Or.inl (by decide) | exact Or.inr (by simp [AV.namesL, AV.names]) | skip
    · intro k hk
      dsimp only
      repeat ((intro _u; clear _u); first
        | (with_reducible refine acnd_tt ?_)
        | (with_reducible refine acnd_ff ?_)
        | ((with_reducible refine iwr_in ?_ ?_); · (simp only [inI]; omega))
        | ((with_reducible refine need_i ?_ ?_); · (first | omega | (simp <;> omega))))
      intro _u; clear _u
      refine acnd_i (fun h1 => ?_) (fun h1 => ?_)
      all_goals repeat (first | simp only [decide_eq_true_eq] at h1 | simp only [decide_eq_false_iff_not] at h1 | simp only [beq_iff_eq] at h1 | simp only [bne_iff_ne] at h1 | simp only [beq_eq_false_iff_ne] at h1 | simp only [bne_eq_false_iff_eq] at h1 | simp only [Bool.not_eq_true'] at h1 | simp only [Bool.not_eq_false'] at h1 | simp only [Int.not_lt] at h1 | simp only [Int.not_le] at h1 | simp only [Bool.and_eq_true] at h1 | simp only [Bool.or_eq_true] at h1 | simp only [gt_iff_lt] at h1 | simp only [ge_iff_le] at h1 | simp only [ne_eq] at h1 | simp only [Decidable.not_not] at h1)
      · obtain ⟨x, hx⟩ : ∃ x, l[k]? = some x := ⟨_, List.getElem?_eq_getElem (by first | omega | (simp <;> omega))⟩
        repeat ((intro _u; clear _u); first
          | (with_reducible refine acnd_tt ?_)
          | (with_reducible refine acnd_ff ?_)
          | ((with_reducible refine iwr_in ?_ ?_); · (simp only [inI]; omega))
          | ((with_reducible refine need_i ?_ ?_); · (first | omega | (simp <;> omega))))
        intro _u; clear _u
        refine eget_map hx ?_
        repeat ((intro _u; clear _u); first
          | (with_reducible refine acnd_tt ?_)
          | (with_reducible refine acnd_ff ?_)
          | ((with_reducible refine iwr_in ?_ ?_); · (simp only [inI]; omega))
          | ((with_reducible refine need_i ?_ ?_); · (first | omega | (simp <;> omega))))
        intro _u; clear _u
        refine ICall.pure hb (hg _ _) rfl ?_
        repeat ((intro _u; clear _u); first
          | (with_reducible refine acnd_tt ?_)
          | (with_reducible refine acnd_ff ?_)
          | ((with_reducible refine iwr_in ?_ ?_); · (simp only [inI]; omega))
          | ((with_reducible refine need_i ?_ ?_); · (first | omega | (simp <;> omega))))
        intro _u; clear _u
        refine ⟨k + 1, ?_, ?_, hp, ?_, ?_⟩
        · omega
        · omega
        · all_goals repeat' (first | exact True.intro | refine And.intro ?_ ?_ | (intro _u; clear _u) | (with_reducible refine fzEs_same ?_ ?_ ?_) | (with_reducible refine mtEs_same ?_ ?_))
          all_goals first | (with_reducible rfl) | omega | (simp; done) | (simp only [AV.namesL, AV.names, List.append_nil]; done) | (simp [AV.namesL]; done) | exact Or.inl (by decide) | exact Or.inr (by simp [AV.namesL, AV.names]) | skip
          exact (foldl_take_succ' g s l k hx).symm
        · all_goals repeat' (first | exact True.intro | refine And.intro ?_ ?_ | (intro _u; clear _u) | (with_reducible refine fzEs_same ?_ ?_ ?_) | (with_reducible refine mtEs_same ?_ ?_))
          all_goals first | (with_reducible rfl) | omega | (simp; done) | (simp only [AV.namesL, AV.names, List.append_nil]; done) | (simp [AV.namesL]; done) | exact Or.inl (by decide) | exact Or.inr (by simp [AV.namesL, AV.names]) | skip
      · repeat ((intro _u; clear _u); first
          | (with_reducible refine acnd_tt ?_)
          | (with_reducible refine acnd_ff ?_)
          | ((with_reducible refine iwr_in ?_ ?_); · (simp only [inI]; omega))
          | ((with_reducible refine need_i ?_ ?_); · (first | omega | (simp <;> omega))))
        intro _u; clear _u
        refine IRet.of ?_
        all_goals repeat' (first | exact True.intro | refine And.intro ?_ ?_ | (intro _u; clear _u) | (with_reducible refine fzEs_same ?_ ?_ ?_) | (with_reducible refine mtEs_same ?_ ?_))
        all_goals first | (with_reducible rfl) | omega | (simp; done) | (simp only [AV.namesL, AV.names, List.append_nil]; done) | (simp [AV.namesL]; done) | exact Or.inl (by decide) | exact Or.inr (by simp [AV.namesL, AV.names]) | skip
        rw [List.take_of_length_le (by omega)]

theorem join_c {R : Env} (h : N4 R) (l : List Int) (hl : (l.length : Int) ≤ 9223372036854775807) : R.Pc 4 [slc32 l] (.int .u32 (l.foldl (bit2 .or .u32) 0)) :=
  h.o4.enter 60 rfl fun X b hfit hp => by
    repeat ((intro _u; clear _u); first
      | (with_reducible refine acnd_tt ?_)
      | (with_reducible refine acnd_ff ?_)
      | ((with_reducible refine iwr_in ?_ ?_); · (simp only [inI]; omega))
      | ((with_reducible refine need_i ?_ ?_); · (first | omega | (simp <;> omega))))
    intro _u; clear _u
    refine ICall.pure h.n16.o16.hb (fold_c h.n16 h.n17.o17.hb (or_c h.n17) 0 l hl) rfl ?_
    repeat ((intro _u; clear _u); first
      | (with_reducible refine acnd_tt ?_)
      | (with_reducible refine acnd_ff ?_)
      | ((with_reducible refine iwr_in ?_ ?_); · (simp only [inI]; omega))
      | ((with_reducible refine need_i ?_ ?_); · (first | omega | (simp <;> omega))))
    intro _u; clear _u
    refine IRet.of ?_
    all_goals repeat' (first | exact True.intro | refine And.intro ?_ ?_ | (intro _u; clear _u) | (with_reducible refine fzEs_same ?_ ?_ ?_) | (with_reducible refine mtEs_same ?_ ?_))
    all_goals first | (with_reducible rfl) | omega | (simp; done) | (simp only [AV.namesL, AV.names, List.append_nil]; done) | (simp [AV.namesL]; done) | exact Or.inl (by decide) | exact Or.inr (by simp [AV.namesL, AV.names]) | skip

theorem fold_n {R : Env} (h : N16 R) (s : Int) (f : AV) : R.Pc 16 [.int .u32 s, .nils, f] (.int .u32 s) :=
  h.o16.enter 60 rfl fun X b hfit hp => by
    repeat ((intro _u; clear _u); first
      | (with_reducible refine acnd_tt ?_)
      | (with_reducible refine acnd_ff ?_)
      | ((with_reducible refine iwr_in ?_ ?_); · (simp only [inI]; omega))
      | ((with_reducible refine need_i ?_ ?_); · (first | omega | (simp <;> omega))))
    intro _u; clear _u
    refine ILoop.one 60 ?_
    repeat ((intro _u; clear _u); first
      | (with_reducible refine acnd_tt ?_)
      | (with_reducible refine acnd_ff ?_)
      | ((with_reducible refine iwr_in ?_ ?_); · (simp only [inI]; omega))
      | ((with_reducible refine need_i ?_ ?_); · (first | omega | (simp <;> omega))))
    intro _u; clear _u
    refine acnd_f (by decide) ?_
    repeat ((intro _u; clear _u); first
      | (with_reducible refine acnd_tt ?_)
      | (with_reducible refine acnd_ff ?_)
      | ((with_reducible refine iwr_in ?_ ?_); · (simp only [inI]; omega))
      | ((with_reducible refine need_i ?_ ?_); · (first | omega | (simp <;> omega))))
    intro _u; clear _u
    refine IRet.of ?_
    all_goals repeat' (first | exact True.intro | refine And.intro ?_ ?_ | (intro _u; clear _u) | (with_reducible refine fzEs_same ?_ ?_ ?_) | (with_reducible refine mtEs_same ?_ ?_))
    all_goals first | (with_reducible rfl) | omega | (simp; done) | (simp only [AV.namesL, AV.names, List.append_nil]; done) | (simp [AV.namesL]; done) | exact Or.inl (by decide) | exact Or.inr (by simp [AV.namesL, AV.names]) | skip

theorem join_n {R : Env} (h : N4 R) : R.Pc 4 [.nils] (.int .u32 0) :=
  h.o4.enter 60 rfl fun X b hfit hp => by
    repeat ((intro _u; clear _u); first
      | (with_reducible refine acnd_tt ?_)
      | (with_reducible refine acnd_ff ?_)
      | ((with_reducible refine iwr_in ?_ ?_); · (simp only [inI]; omega))
      | ((with_reducible refine need_i ?_ ?_); · (first | omega | (simp <;> omega))))
    intro _u; clear _u
    refine ICall.pure h.n16.o16.hb (fold_n h.n16 0 _) rfl ?_
    repeat ((intro _u; clear _u); first
      | (with_reducible refine acnd_tt ?_)
      | (with_reducible refine acnd_ff ?_)
      | ((with_reducible refine iwr_in ?_ ?_); · (simp only [inI]; omega))
      | ((with_reducible refine need_i ?_ ?_); · (first | omega | (simp <;> omega))))
    intro _u; clear _u
    refine IRet.of ?_
    all_goals repeat' (first | exact True.intro | refine And.intro ?_ ?_ | (intro _u; clear _u) | (with_reducible refine fzEs_same ?_ ?_ ?_) | (with_reducible refine mtEs_same ?_ ?_))
    all_goals first | (with_reducible rfl) | omega | (simp; done) | (simp only [AV.namesL, AV.names, List.append_nil]; done) | (simp [AV.namesL]; done) | exact Or.inl (by decide) | exact Or.inr (by simp [AV.namesL, AV.names]) | skip
end Go.UM

/- The statements of chapter 17. -/


namespace Go.UM
open Go.AM
set_option maxRecDepth 4000

theorem works17_c {R : Env} (h : N7 R) : R.Pc 7 [] (.bool true) :=
  h.o7.enter 100 rfl fun X b hfit hp => by
    repeat ((intro _u; clear _u); first
      | (with_reducible refine acnd_tt ?_)
      | (with_reducible refine acnd_ff ?_)
      | ((with_reducible refine iwr_in ?_ ?_); · (simp only [inI]; omega))
      | ((with_reducible refine need_i ?_ ?_); · (first | omega | (simp <;> omega))))
    intro _u; clear _u
    refine ICall.lend rfl h.n4.o4.hb (join_c h.n4 [1, 4] (by decide)) ?_ rfl ?_
    · all_goals repeat' (first | exact True.intro | refine And.intro ?_ ?_ | (intro _u; clear _u) | (with_reducible refine fzEs_same ?_ ?_ ?_) | (with_reducible refine mtEs_same ?_ ?_))
      all_goals first | (with_reducible rfl) | omega | (simp; done) | (simp only [AV.namesL, AV.names, List.append_nil]; done) | (simp [AV.namesL]; done) | (simp [AV.namesL, AV.names]; done) | exact Or.inl (by decide) | exact Or.inr (by simp [AV.namesL, AV.names]) | skip
    repeat ((intro _u; clear _u); first
      | (with_reducible refine acnd_tt ?_)
      | (with_reducible refine acnd_ff ?_)
      | ((with_reducible refine iwr_in ?_ ?_); · (simp only [inI]; omega))
      | ((with_reducible refine need_i ?_ ?_); · (first | omega | (simp <;> omega))))
    intro _u; clear _u
    refine acnd_t (by decide) ?_
    repeat ((intro _u; clear _u); first
      | (with_reducible refine acnd_tt ?_)
      | (with_reducible refine acnd_ff ?_)
      | ((with_reducible refine iwr_in ?_ ?_); · (simp only [inI]; omega))
      | ((with_reducible refine need_i ?_ ?_); · (first | omega | (simp <;> omega))))
    intro _u; clear _u
    refine ICall.pure h.n6.o6.hb (below_c h.n6 1 5) rfl ?_
    repeat ((intro _u; clear _u); first
      | (with_reducible refine acnd_tt ?_)
      | (with_reducible refine acnd_ff ?_)
      | ((with_reducible refine iwr_in ?_ ?_); · (simp only [inI]; omega))
      | ((with_reducible refine need_i ?_ ?_); · (first | omega | (simp <;> omega))))
    intro _u; clear _u
    refine acnd_t (by decide) ?_
    repeat ((intro _u; clear _u); first
      | (with_reducible refine acnd_tt ?_)
      | (with_reducible refine acnd_ff ?_)
      | ((with_reducible refine iwr_in ?_ ?_); · (simp only [inI]; omega))
      | ((with_reducible refine need_i ?_ ?_); · (first | omega | (simp <;> omega))))
    intro _u; clear _u
    refine ICall.pure h.n6.o6.hb (below_c h.n6 2 5) rfl ?_
    repeat ((intro _u; clear _u); first
      | (with_reducible refine acnd_tt ?_)
      | (with_reducible refine acnd_ff ?_)
      | ((with_reducible refine iwr_in ?_ ?_); · (simp only [inI]; omega))
      | ((with_reducible refine need_i ?_ ?_); · (first | omega | (simp <;> omega))))
    intro _u; clear _u
    refine IRet.of ?_
    all_goals repeat' (first | exact True.intro | refine And.intro ?_ ?_ | (intro _u; clear _u) | (with_reducible refine fzEs_same ?_ ?_ ?_) | (with_reducible refine mtEs_same ?_ ?_))
    all_goals first | (with_reducible rfl) | omega | (simp; done) | (simp only [AV.namesL, AV.names, List.append_nil]; done) | (simp [AV.namesL]; done) | (simp [AV.namesL, AV.names]; done) | exact Or.inl (by decide) | exact Or.inr (by simp [AV.namesL, AV.names]) | skip
    decide

theorem bit_c {R : Env} (h : N5 R) (x i : Int) (hi : 0 ≤ i) : R.Pc 5 [.int .u32 x, .int .i64 i] (.bool (bit2 .and .u32 (shrI .u32 x i) 1 == 1)) :=
  h.o5.enter 100 rfl fun X b hfit hp => by
    repeat ((intro _u; clear _u); first
      | (with_reducible refine acnd_tt ?_)
      | (with_reducible refine acnd_ff ?_)
      | ((with_reducible refine iwr_in ?_ ?_); · (simp only [inI]; omega))
      | ((with_reducible refine need_i ?_ ?_); · (first | omega | (simp <;> omega))))
    intro _u; clear _u
    refine IRet.of ?_
    all_goals repeat' (first | exact True.intro | refine And.intro ?_ ?_ | (intro _u; clear _u) | (with_reducible refine fzEs_same ?_ ?_ ?_) | (with_reducible refine mtEs_same ?_ ?_))
    all_goals first | (with_reducible rfl) | omega | (simp; done) | (simp only [AV.namesL, AV.names, List.append_nil]; done) | (simp [AV.namesL]; done) | (simp [AV.namesL, AV.names]; done) | exact Or.inl (by decide) | exact Or.inr (by simp [AV.namesL, AV.names]) | skip

/-! ### Bits -/
theorem or32 (x y : Int) : bit2 .or .u32 x y = ((BitVec.ofInt 32 x ||| BitVec.ofInt 32 y).toNat : Int) := by
  have e : bit2 .or .u32 x y = IntKind.wrap .u32 ((BitVec.ofInt 32 x ||| BitVec.ofInt 32 y).toNat : Int) := rfl
  rw [e]
  generalize BitVec.ofInt 32 x ||| BitVec.ofInt 32 y = v
  have := v.isLt
  exact wr_in (k := .u32) ⟨by omega, by omega⟩

theorem ofInt_toNat32 (v : BitVec 32) : BitVec.ofInt 32 (v.toNat : Int) = v := by simp

theorem toNat_ofInt32 {x : Int} (h : inI .u32 x) : ((BitVec.ofInt 32 x).toNat : Int) = x := by
  simp only [inI] at h
  simp [BitVec.toNat_ofInt]
  omega

/-- A number of the kind uint32 is a row of bits. -/
theorem bits_of {x : Int} (h : inI .u32 x) : ∃ v : BitVec 32, x = (v.toNat : Int) := ⟨_, (toNat_ofInt32 h).symm⟩

def orL (l : List (BitVec 32)) (s : BitVec 32) : BitVec 32 := l.foldl (· ||| ·) s

theorem joined (l : List (BitVec 32)) : ∀ s : BitVec 32, (l.map fun v => (v.toNat : Int)).foldl (bit2 .or .u32) (s.toNat : Int) = ((orL l s).toNat : Int) := by
  induction l with
  | nil => intro s; rfl
  | cons x l ih => intro s; simp only [List.map_cons, List.foldl_cons, or32, ofInt_toNat32, orL] at ih ⊢; exact ih _

theorem join_v {R : Env} (h : N4 R) (l : List (BitVec 32)) (hl : (l.length : Int) ≤ 9223372036854775807) : R.Pc 4 [slc32 (l.map fun v => (v.toNat : Int))] (.int .u32 ((orL l 0).toNat : Int)) := by
  have := join_c h (l.map fun v => (v.toNat : Int)) (by simpa using hl)
  rwa [show (0 : Int) = ((0 : BitVec 32).toNat : Int) from rfl, joined] at this

theorem same32 (A B : BitVec 32) (h : A = B) : (((A.toNat : Nat) : Int) == ((B.toNat : Nat) : Int)) = true := by rw [h]; simp

/-- LabelOrder -/
theorem order_c {R : Env} (h : N9 R) (x y z : BitVec 32) : R.Pc 9 [.int .u32 x.toNat, .int .u32 y.toNat, .int .u32 z.toNat] (.bool true) :=
  h.o9.enter 200 rfl fun X b hfit hp => by
    repeat ((intro _u; clear _u); first
      | (with_reducible refine acnd_tt ?_)
      | (with_reducible refine acnd_ff ?_)
      | ((with_reducible refine iwr_in ?_ ?_); · (simp only [inI]; omega))
      | ((with_reducible refine need_i ?_ ?_); · (first | omega | (simp <;> omega))))
    intro _u; clear _u
    refine ICall.lend rfl h.n4.o4.hb (join_v h.n4 [x, y, z] (by simp)) ?_ rfl ?_
    · all_goals repeat' (first | exact True.intro | refine And.intro ?_ ?_ | (intro _u; clear _u) | (with_reducible refine fzEs_same ?_ ?_ ?_) | (with_reducible refine mtEs_same ?_ ?_))
      all_goals first | (with_reducible rfl) | omega | (simp; done) | (simp only [AV.namesL, AV.names, List.append_nil]; done) | (simp [AV.namesL]; done) | (simp [AV.namesL, AV.names]; done) | exact Or.inl (by decide) | exact Or.inr (by simp [AV.namesL, AV.names]) | skip
    repeat ((intro _u; clear _u); first
      | (with_reducible refine acnd_tt ?_)
      | (with_reducible refine acnd_ff ?_)
      | ((with_reducible refine iwr_in ?_ ?_); · (simp only [inI]; omega))
      | ((with_reducible refine need_i ?_ ?_); · (first | omega | (simp <;> omega))))
    intro _u; clear _u
    refine ICall.lend rfl h.n4.o4.hb (join_v h.n4 [z, x, y] (by simp)) ?_ rfl ?_
    · all_goals repeat' (first | exact True.intro | refine And.intro ?_ ?_ | (intro _u; clear _u) | (with_reducible refine fzEs_same ?_ ?_ ?_) | (with_reducible refine mtEs_same ?_ ?_))
      all_goals first | (with_reducible rfl) | omega | (simp; done) | (simp only [AV.namesL, AV.names, List.append_nil]; done) | (simp [AV.namesL]; done) | (simp [AV.namesL, AV.names]; done) | exact Or.inl (by decide) | exact Or.inr (by simp [AV.namesL, AV.names]) | skip
    repeat ((intro _u; clear _u); first
      | (with_reducible refine acnd_tt ?_)
      | (with_reducible refine acnd_ff ?_)
      | ((with_reducible refine iwr_in ?_ ?_); · (simp only [inI]; omega))
      | ((with_reducible refine need_i ?_ ?_); · (first | omega | (simp <;> omega))))
    intro _u; clear _u
    refine acnd_t (by apply same32; simp only [orL, List.foldl_cons, List.foldl_nil]; ext i; simp; ac_rfl) ?_
    repeat ((intro _u; clear _u); first
      | (with_reducible refine acnd_tt ?_)
      | (with_reducible refine acnd_ff ?_)
      | ((with_reducible refine iwr_in ?_ ?_); · (simp only [inI]; omega))
      | ((with_reducible refine need_i ?_ ?_); · (first | omega | (simp <;> omega))))
    intro _u; clear _u
    refine ICall.lend rfl h.n4.o4.hb (join_v h.n4 [y, z] (by simp)) ?_ rfl ?_
    · all_goals repeat' (first | exact True.intro | refine And.intro ?_ ?_ | (intro _u; clear _u) | (with_reducible refine fzEs_same ?_ ?_ ?_) | (with_reducible refine mtEs_same ?_ ?_))
      all_goals first | (with_reducible rfl) | omega | (simp; done) | (simp only [AV.namesL, AV.names, List.append_nil]; done) | (simp [AV.namesL]; done) | (simp [AV.namesL, AV.names]; done) | exact Or.inl (by decide) | exact Or.inr (by simp [AV.namesL, AV.names]) | skip
    repeat ((intro _u; clear _u); first
      | (with_reducible refine acnd_tt ?_)
      | (with_reducible refine acnd_ff ?_)
      | ((with_reducible refine iwr_in ?_ ?_); · (simp only [inI]; omega))
      | ((with_reducible refine need_i ?_ ?_); · (first | omega | (simp <;> omega))))
    intro _u; clear _u
    refine ICall.lend rfl h.n4.o4.hb (join_v h.n4 [x, orL [y, z] 0] (by simp)) ?_ rfl ?_
    · all_goals repeat' (first | exact True.intro | refine And.intro ?_ ?_ | (intro _u; clear _u) | (with_reducible refine fzEs_same ?_ ?_ ?_) | (with_reducible refine mtEs_same ?_ ?_))
      all_goals first | (with_reducible rfl) | omega | (simp; done) | (simp only [AV.namesL, AV.names, List.append_nil]; done) | (simp [AV.namesL]; done) | (simp [AV.namesL, AV.names]; done) | exact Or.inl (by decide) | exact Or.inr (by simp [AV.namesL, AV.names]) | skip
    repeat ((intro _u; clear _u); first
      | (with_reducible refine acnd_tt ?_)
      | (with_reducible refine acnd_ff ?_)
      | ((with_reducible refine iwr_in ?_ ?_); · (simp only [inI]; omega))
      | ((with_reducible refine need_i ?_ ?_); · (first | omega | (simp <;> omega))))
    intro _u; clear _u
    refine ICall.lend rfl h.n4.o4.hb (join_v h.n4 [x, y] (by simp)) ?_ rfl ?_
    · all_goals repeat' (first | exact True.intro | refine And.intro ?_ ?_ | (intro _u; clear _u) | (with_reducible refine fzEs_same ?_ ?_ ?_) | (with_reducible refine mtEs_same ?_ ?_))
      all_goals first | (with_reducible rfl) | omega | (simp; done) | (simp only [AV.namesL, AV.names, List.append_nil]; done) | (simp [AV.namesL]; done) | (simp [AV.namesL, AV.names]; done) | exact Or.inl (by decide) | exact Or.inr (by simp [AV.namesL, AV.names]) | skip
    repeat ((intro _u; clear _u); first
      | (with_reducible refine acnd_tt ?_)
      | (with_reducible refine acnd_ff ?_)
      | ((with_reducible refine iwr_in ?_ ?_); · (simp only [inI]; omega))
      | ((with_reducible refine need_i ?_ ?_); · (first | omega | (simp <;> omega))))
    intro _u; clear _u
    refine ICall.lend rfl h.n4.o4.hb (join_v h.n4 [orL [x, y] 0, z] (by simp)) ?_ rfl ?_
    · all_goals repeat' (first | exact True.intro | refine And.intro ?_ ?_ | (intro _u; clear _u) | (with_reducible refine fzEs_same ?_ ?_ ?_) | (with_reducible refine mtEs_same ?_ ?_))
      all_goals first | (with_reducible rfl) | omega | (simp; done) | (simp only [AV.namesL, AV.names, List.append_nil]; done) | (simp [AV.namesL]; done) | (simp [AV.namesL, AV.names]; done) | exact Or.inl (by decide) | exact Or.inr (by simp [AV.namesL, AV.names]) | skip
    repeat ((intro _u; clear _u); first
      | (with_reducible refine acnd_tt ?_)
      | (with_reducible refine acnd_ff ?_)
      | ((with_reducible refine iwr_in ?_ ?_); · (simp only [inI]; omega))
      | ((with_reducible refine need_i ?_ ?_); · (first | omega | (simp <;> omega))))
    intro _u; clear _u
    refine acnd_t (by apply same32; simp only [orL, List.foldl_cons, List.foldl_nil]; ext i; simp; ac_rfl) ?_
    repeat ((intro _u; clear _u); first
      | (with_reducible refine acnd_tt ?_)
      | (with_reducible refine acnd_ff ?_)
      | ((with_reducible refine iwr_in ?_ ?_); · (simp only [inI]; omega))
      | ((with_reducible refine need_i ?_ ?_); · (first | omega | (simp <;> omega))))
    intro _u; clear _u
    refine ICall.lend rfl h.n4.o4.hb (join_v h.n4 [x, x] (by simp)) ?_ rfl ?_
    · all_goals repeat' (first | exact True.intro | refine And.intro ?_ ?_ | (intro _u; clear _u) | (with_reducible refine fzEs_same ?_ ?_ ?_) | (with_reducible refine mtEs_same ?_ ?_))
      all_goals first | (with_reducible rfl) | omega | (simp; done) | (simp only [AV.namesL, AV.names, List.append_nil]; done) | (simp [AV.namesL]; done) | (simp [AV.namesL, AV.names]; done) | exact Or.inl (by decide) | exact Or.inr (by simp [AV.namesL, AV.names]) | skip
    repeat ((intro _u; clear _u); first
      | (with_reducible refine acnd_tt ?_)
      | (with_reducible refine acnd_ff ?_)
      | ((with_reducible refine iwr_in ?_ ?_); · (simp only [inI]; omega))
      | ((with_reducible refine need_i ?_ ?_); · (first | omega | (simp <;> omega))))
    intro _u; clear _u
    refine acnd_t (by apply same32; simp only [orL, List.foldl_cons, List.foldl_nil]; ext i; simp) ?_
    repeat ((intro _u; clear _u); first
      | (with_reducible refine acnd_tt ?_)
      | (with_reducible refine acnd_ff ?_)
      | ((with_reducible refine iwr_in ?_ ?_); · (simp only [inI]; omega))
      | ((with_reducible refine need_i ?_ ?_); · (first | omega | (simp <;> omega))))
    intro _u; clear _u
    refine ICall.pure h.n7.o7.hb (works17_c h.n7) rfl ?_
    repeat ((intro _u; clear _u); first
      | (with_reducible refine acnd_tt ?_)
      | (with_reducible refine acnd_ff ?_)
      | ((with_reducible refine iwr_in ?_ ?_); · (simp only [inI]; omega))
      | ((with_reducible refine need_i ?_ ?_); · (first | omega | (simp <;> omega))))
    intro _u; clear _u
    refine IRet.of ?_
    all_goals repeat' (first | exact True.intro | refine And.intro ?_ ?_ | (intro _u; clear _u) | (with_reducible refine fzEs_same ?_ ?_ ?_) | (with_reducible refine mtEs_same ?_ ?_))
    all_goals first | (with_reducible rfl) | omega | (simp; done) | (simp only [AV.namesL, AV.names, List.append_nil]; done) | (simp [AV.namesL]; done) | (simp [AV.namesL, AV.names]; done) | exact Or.inl (by decide) | exact Or.inr (by simp [AV.namesL, AV.names]) | skip

theorem masks_c {R : Env} (h : N10 R) (m0 m1 m2 m3 m4 m5 m6 m7 l : Int) (h0 : 0 ≤ m0 ∧ 0 ≤ m1 ∧ 0 ≤ m2 ∧ 0 ≤ m3 ∧ 0 ≤ m4 ∧ 0 ≤ m5 ∧ 0 ≤ m6 ∧ 0 ≤ m7) : R.Pc 10 [.agg [.int .u8 m0, .int .u8 m1, .int .u8 m2, .int .u8 m3, .int .u8 m4, .int .u8 m5, .int .u8 m6, .int .u8 m7], .int .i64 l] (.bool true) :=
  h.o10.enter 200 rfl fun X b hfit hp => by
    repeat ((intro _u; clear _u); first
      | (with_reducible refine acnd_tt ?_)
      | (with_reducible refine acnd_ff ?_)
      | ((with_reducible refine iwr_in ?_ ?_); · (simp only [inI]; omega))
      | ((with_reducible refine need_i ?_ ?_); · (first | omega | (simp <;> omega))))
    intro _u; clear _u
    refine ICall.pure h.n11.o11.hb (bits_c h.n11 m0 m1 m2 m3 m4 m5 m6 m7 l) rfl ?_
    by_cases hl : l < 0 ∨ 8 ≤ l
    · have hb : bits [m0, m1, m2, m3, m4, m5, m6, m7] l = 0 := by simp [bits, hl]
      repeat ((intro _u; clear _u); first
        | (with_reducible refine acnd_tt ?_)
        | (with_reducible refine acnd_ff ?_)
        | ((with_reducible refine iwr_in ?_ ?_); · (simp only [inI]; omega))
        | ((with_reducible refine need_i ?_ ?_); · (first | omega | (simp <;> omega))))
      intro _u; clear _u
      refine acnd_i (fun h1 => ?_) (fun h1 => ?_)
      all_goals repeat (first | simp only [decide_eq_true_eq] at h1 | simp only [decide_eq_false_iff_not] at h1 | simp only [beq_iff_eq] at h1 | simp only [bne_iff_ne] at h1 | simp only [beq_eq_false_iff_ne] at h1 | simp only [bne_eq_false_iff_eq] at h1 | simp only [Bool.not_eq_true'] at h1 | simp only [Bool.not_eq_false'] at h1 | simp only [Int.not_lt] at h1 | simp only [Int.not_le] at h1 | simp only [Bool.and_eq_true] at h1 | simp only [Bool.or_eq_true] at h1 | simp only [gt_iff_lt] at h1 | simp only [ge_iff_le] at h1 | simp only [ne_eq] at h1 | simp only [Decidable.not_not] at h1)
      · repeat ((intro _u; clear _u); first
          | (with_reducible refine acnd_tt ?_)
          | (with_reducible refine acnd_ff ?_)
          | ((with_reducible refine iwr_in ?_ ?_); · (simp only [inI]; omega))
          | ((with_reducible refine need_i ?_ ?_); · (first | omega | (simp <;> omega))))
        repeat ((intro _u; clear _u); first
          | (with_reducible refine acnd_tt ?_)
          | (with_reducible refine acnd_ff ?_)
          | ((with_reducible refine iwr_in ?_ ?_); · (simp only [inI]; omega))
          | ((with_reducible refine need_i ?_ ?_); · (first | omega | (simp <;> omega))))
        intro _u; clear _u
        refine acnd_t (by rw [hb]; rfl) ?_
        repeat ((intro _u; clear _u); first
          | (with_reducible refine acnd_tt ?_)
          | (with_reducible refine acnd_ff ?_)
          | ((with_reducible refine iwr_in ?_ ?_); · (simp only [inI]; omega))
          | ((with_reducible refine need_i ?_ ?_); · (first | omega | (simp <;> omega))))
        intro _u; clear _u
        refine ICall.pure h.n12.o12.hb (sees_c h.n12 m0 m1 m2 m3 m4 m5 m6 m7 l) rfl ?_
        repeat ((intro _u; clear _u); first
          | (with_reducible refine acnd_tt ?_)
          | (with_reducible refine acnd_ff ?_)
          | ((with_reducible refine iwr_in ?_ ?_); · (simp only [inI]; omega))
          | ((with_reducible refine need_i ?_ ?_); · (first | omega | (simp <;> omega))))
        intro _u; clear _u
        refine acnd_t (by rw [hb]; rfl) ?_
        repeat ((intro _u; clear _u); first
          | (with_reducible refine acnd_tt ?_)
          | (with_reducible refine acnd_ff ?_)
          | ((with_reducible refine iwr_in ?_ ?_); · (simp only [inI]; omega))
          | ((with_reducible refine need_i ?_ ?_); · (first | omega | (simp <;> omega))))
        intro _u; clear _u
        refine ICall.pure h.n7.o7.hb (works17_c h.n7) rfl ?_
        repeat ((intro _u; clear _u); first
          | (with_reducible refine acnd_tt ?_)
          | (with_reducible refine acnd_ff ?_)
          | ((with_reducible refine iwr_in ?_ ?_); · (simp only [inI]; omega))
          | ((with_reducible refine need_i ?_ ?_); · (first | omega | (simp <;> omega))))
        intro _u; clear _u
        refine IRet.of ?_
        all_goals repeat' (first | exact True.intro | refine And.intro ?_ ?_ | (intro _u; clear _u) | (with_reducible refine fzEs_same ?_ ?_ ?_) | (with_reducible refine mtEs_same ?_ ?_))
        all_goals first | (with_reducible rfl) | omega | (simp; done) | (simp only [AV.namesL, AV.names, List.append_nil]; done) | (simp [AV.namesL]; done) | (simp [AV.namesL, AV.names]; done) | exact Or.inl (by decide) | exact Or.inr (by simp [AV.namesL, AV.names]) | skip
      · repeat ((intro _u; clear _u); first
          | (with_reducible refine acnd_tt ?_)
          | (with_reducible refine acnd_ff ?_)
          | ((with_reducible refine iwr_in ?_ ?_); · (simp only [inI]; omega))
          | ((with_reducible refine need_i ?_ ?_); · (first | omega | (simp <;> omega))))
        intro _u; clear _u
        refine acnd_i (fun h2 => ?_) (fun h2 => ?_)
        all_goals repeat (first | simp only [decide_eq_true_eq] at h2 | simp only [decide_eq_false_iff_not] at h2 | simp only [beq_iff_eq] at h2 | simp only [bne_iff_ne] at h2 | simp only [beq_eq_false_iff_ne] at h2 | simp only [bne_eq_false_iff_eq] at h2 | simp only [Bool.not_eq_true'] at h2 | simp only [Bool.not_eq_false'] at h2 | simp only [Int.not_lt] at h2 | simp only [Int.not_le] at h2 | simp only [Bool.and_eq_true] at h2 | simp only [Bool.or_eq_true] at h2 | simp only [gt_iff_lt] at h2 | simp only [ge_iff_le] at h2 | simp only [ne_eq] at h2 | simp only [Decidable.not_not] at h2)
        · repeat ((intro _u; clear _u); first
            | (with_reducible refine acnd_tt ?_)
            | (with_reducible refine acnd_ff ?_)
            | ((with_reducible refine iwr_in ?_ ?_); · (simp only [inI]; omega))
            | ((with_reducible refine need_i ?_ ?_); · (first | omega | (simp <;> omega))))
          repeat ((intro _u; clear _u); first
            | (with_reducible refine acnd_tt ?_)
            | (with_reducible refine acnd_ff ?_)
            | ((with_reducible refine iwr_in ?_ ?_); · (simp only [inI]; omega))
            | ((with_reducible refine need_i ?_ ?_); · (first | omega | (simp <;> omega))))
          intro _u; clear _u
          refine acnd_t (by rw [hb]; rfl) ?_
          repeat ((intro _u; clear _u); first
            | (with_reducible refine acnd_tt ?_)
            | (with_reducible refine acnd_ff ?_)
            | ((with_reducible refine iwr_in ?_ ?_); · (simp only [inI]; omega))
            | ((with_reducible refine need_i ?_ ?_); · (first | omega | (simp <;> omega))))
          intro _u; clear _u
          refine ICall.pure h.n12.o12.hb (sees_c h.n12 m0 m1 m2 m3 m4 m5 m6 m7 l) rfl ?_
          repeat ((intro _u; clear _u); first
            | (with_reducible refine acnd_tt ?_)
            | (with_reducible refine acnd_ff ?_)
            | ((with_reducible refine iwr_in ?_ ?_); · (simp only [inI]; omega))
            | ((with_reducible refine need_i ?_ ?_); · (first | omega | (simp <;> omega))))
          intro _u; clear _u
          refine acnd_t (by rw [hb]; rfl) ?_
          repeat ((intro _u; clear _u); first
            | (with_reducible refine acnd_tt ?_)
            | (with_reducible refine acnd_ff ?_)
            | ((with_reducible refine iwr_in ?_ ?_); · (simp only [inI]; omega))
            | ((with_reducible refine need_i ?_ ?_); · (first | omega | (simp <;> omega))))
          intro _u; clear _u
          refine ICall.pure h.n7.o7.hb (works17_c h.n7) rfl ?_
          repeat ((intro _u; clear _u); first
            | (with_reducible refine acnd_tt ?_)
            | (with_reducible refine acnd_ff ?_)
            | ((with_reducible refine iwr_in ?_ ?_); · (simp only [inI]; omega))
            | ((with_reducible refine need_i ?_ ?_); · (first | omega | (simp <;> omega))))
          intro _u; clear _u
          refine IRet.of ?_
          all_goals repeat' (first | exact True.intro | refine And.intro ?_ ?_ | (intro _u; clear _u) | (with_reducible refine fzEs_same ?_ ?_ ?_) | (with_reducible refine mtEs_same ?_ ?_))
          all_goals first | (with_reducible rfl) | omega | (simp; done) | (simp only [AV.namesL, AV.names, List.append_nil]; done) | (simp [AV.namesL]; done) | (simp [AV.namesL, AV.names]; done) | exact Or.inl (by decide) | exact Or.inr (by simp [AV.namesL, AV.names]) | skip
        · omega
    · repeat ((intro _u; clear _u); first
        | (with_reducible refine acnd_tt ?_)
        | (with_reducible refine acnd_ff ?_)
        | ((with_reducible refine iwr_in ?_ ?_); · (simp only [inI]; omega))
        | ((with_reducible refine need_i ?_ ?_); · (first | omega | (simp <;> omega))))
      intro _u; clear _u
      refine acnd_f (by simp; omega) ?_
      repeat ((intro _u; clear _u); first
        | (with_reducible refine acnd_tt ?_)
        | (with_reducible refine acnd_ff ?_)
        | ((with_reducible refine iwr_in ?_ ?_); · (simp only [inI]; omega))
        | ((with_reducible refine need_i ?_ ?_); · (first | omega | (simp <;> omega))))
      intro _u; clear _u
      refine acnd_f (by simp; omega) ?_
      repeat ((intro _u; clear _u); first
        | (with_reducible refine acnd_tt ?_)
        | (with_reducible refine acnd_ff ?_)
        | ((with_reducible refine iwr_in ?_ ?_); · (simp only [inI]; omega))
        | ((with_reducible refine need_i ?_ ?_); · (first | omega | (simp <;> omega))))
      obtain h3 | h3 | h3 | h3 | h3 | h3 | h3 | h3 : l = 0 ∨ l = 1 ∨ l = 2 ∨ l = 3 ∨ l = 4 ∨ l = 5 ∨ l = 6 ∨ l = 7 := by omega
      all_goals subst h3; intro _u; clear _u
      · refine aix_n 0 rfl rfl ?_
        repeat ((intro _u; clear _u); first
          | (with_reducible refine acnd_tt ?_)
          | (with_reducible refine acnd_ff ?_)
          | ((with_reducible refine iwr_in ?_ ?_); · (simp only [inI]; omega))
          | ((with_reducible refine need_i ?_ ?_); · (first | omega | (simp <;> omega))))
        intro _u; clear _u
        refine acnd_t (by first | rfl | simp [bits]) ?_
        repeat ((intro _u; clear _u); first
          | (with_reducible refine acnd_tt ?_)
          | (with_reducible refine acnd_ff ?_)
          | ((with_reducible refine iwr_in ?_ ?_); · (simp only [inI]; omega))
          | ((with_reducible refine need_i ?_ ?_); · (first | omega | (simp <;> omega))))
        intro _u; clear _u
        refine ICall.pure h.n12.o12.hb (sees_c h.n12 m0 m1 m2 m3 m4 m5 m6 m7 0) rfl ?_
        repeat ((intro _u; clear _u); first
          | (with_reducible refine acnd_tt ?_)
          | (with_reducible refine acnd_ff ?_)
          | ((with_reducible refine iwr_in ?_ ?_); · (simp only [inI]; omega))
          | ((with_reducible refine need_i ?_ ?_); · (first | omega | (simp <;> omega))))
        intro _u; clear _u
        refine acnd_t (by (simp [bits]; rw [Bool.eq_iff_iff]; simp; omega)) ?_
        repeat ((intro _u; clear _u); first
          | (with_reducible refine acnd_tt ?_)
          | (with_reducible refine acnd_ff ?_)
          | ((with_reducible refine iwr_in ?_ ?_); · (simp only [inI]; omega))
          | ((with_reducible refine need_i ?_ ?_); · (first | omega | (simp <;> omega))))
        intro _u; clear _u
        refine ICall.pure h.n7.o7.hb (works17_c h.n7) rfl ?_
        repeat ((intro _u; clear _u); first
          | (with_reducible refine acnd_tt ?_)
          | (with_reducible refine acnd_ff ?_)
          | ((with_reducible refine iwr_in ?_ ?_); · (simp only [inI]; omega))
          | ((with_reducible refine need_i ?_ ?_); · (first | omega | (simp <;> omega))))
        intro _u; clear _u
        refine IRet.of ?_
        all_goals repeat' (first | exact True.intro | refine And.intro ?_ ?_ | (intro _u; clear _u) | (with_reducible refine fzEs_same ?_ ?_ ?_) | (with_reducible refine mtEs_same ?_ ?_))
        all_goals first | (with_reducible rfl) | omega | (simp; done) | (simp only [AV.namesL, AV.names, List.append_nil]; done) | (simp [AV.namesL]; done) | (simp [AV.namesL, AV.names]; done) | exact Or.inl (by decide) | exact Or.inr (by simp [AV.namesL, AV.names]) | skip
      · refine aix_n 1 rfl rfl ?_
        repeat ((intro _u; clear _u); first
          | (with_reducible refine acnd_tt ?_)
          | (with_reducible refine acnd_ff ?_)
          | ((with_reducible refine iwr_in ?_ ?_); · (simp only [inI]; omega))
          | ((with_reducible refine need_i ?_ ?_); · (first | omega | (simp <;> omega))))
        intro _u; clear _u
        refine acnd_t (by first | rfl | simp [bits]) ?_
        repeat ((intro _u; clear _u); first
          | (with_reducible refine acnd_tt ?_)
          | (with_reducible refine acnd_ff ?_)
          | ((with_reducible refine iwr_in ?_ ?_); · (simp only [inI]; omega))
          | ((with_reducible refine need_i ?_ ?_); · (first | omega | (simp <;> omega))))
        intro _u; clear _u
        refine ICall.pure h.n12.o12.hb (sees_c h.n12 m0 m1 m2 m3 m4 m5 m6 m7 1) rfl ?_
        repeat ((intro _u; clear _u); first
          | (with_reducible refine acnd_tt ?_)
          | (with_reducible refine acnd_ff ?_)
          | ((with_reducible refine iwr_in ?_ ?_); · (simp only [inI]; omega))
          | ((with_reducible refine need_i ?_ ?_); · (first | omega | (simp <;> omega))))
        intro _u; clear _u
        refine acnd_t (by (simp [bits]; rw [Bool.eq_iff_iff]; simp; omega)) ?_
        repeat ((intro _u; clear _u); first
          | (with_reducible refine acnd_tt ?_)
          | (with_reducible refine acnd_ff ?_)
          | ((with_reducible refine iwr_in ?_ ?_); · (simp only [inI]; omega))
          | ((with_reducible refine need_i ?_ ?_); · (first | omega | (simp <;> omega))))
        intro _u; clear _u
        refine ICall.pure h.n7.o7.hb (works17_c h.n7) rfl ?_
        repeat ((intro _u; clear _u); first
          | (with_reducible refine acnd_tt ?_)
          | (with_reducible refine acnd_ff ?_)
          | ((with_reducible refine iwr_in ?_ ?_); · (simp only [inI]; omega))
          | ((with_reducible refine need_i ?_ ?_); · (first | omega | (simp <;> omega))))
        intro _u; clear _u
        refine IRet.of ?_
        all_goals repeat' (first | exact True.intro | refine And.intro ?_ ?_ | (intro _u; clear _u) | (with_reducible refine fzEs_same ?_ ?_ ?_) | (with_reducible refine mtEs_same ?_ ?_))
        all_goals first | (with_reducible rfl) | omega | (simp; done) | (simp only [AV.namesL, AV.names, List.append_nil]; done) | (simp [AV.namesL]; done) | (simp [AV.namesL, AV.names]; done) | exact Or.inl (by decide) | exact Or.inr (by simp [AV.namesL, AV.names]) | skip
      · refine aix_n 2 rfl rfl ?_
        repeat ((intro _u; clear _u); first
          | (with_reducible refine acnd_tt ?_)
          | (with_reducible refine acnd_ff ?_)
          | ((with_reducible refine iwr_in ?_ ?_); · (simp only [inI]; omega))
          | ((with_reducible refine need_i ?_ ?_); · (first | omega | (simp <;> omega))))
        intro _u; clear _u
        refine acnd_t (by first | rfl | simp [bits]) ?_
        repeat ((intro _u; clear _u); first
          | (with_reducible refine acnd_tt ?_)
          | (with_reducible refine acnd_ff ?_)
          | ((with_reducible refine iwr_in ?_ ?_); · (simp only [inI]; omega))
          | ((with_reducible refine need_i ?_ ?_); · (first | omega | (simp <;> omega))))
        intro _u; clear _u
        refine ICall.pure h.n12.o12.hb (sees_c h.n12 m0 m1 m2 m3 m4 m5 m6 m7 2) rfl ?_
        repeat ((intro _u; clear _u); first
          | (with_reducible refine acnd_tt ?_)
          | (with_reducible refine acnd_ff ?_)
          | ((with_reducible refine iwr_in ?_ ?_); · (simp only [inI]; omega))
          | ((with_reducible refine need_i ?_ ?_); · (first | omega | (simp <;> omega))))
        intro _u; clear _u
        refine acnd_t (by (simp [bits]; rw [Bool.eq_iff_iff]; simp; omega)) ?_
        repeat ((intro _u; clear _u); first
          | (with_reducible refine acnd_tt ?_)
          | (with_reducible refine acnd_ff ?_)
          | ((with_reducible refine iwr_in ?_ ?_); · (simp only [inI]; omega))
          | ((with_reducible refine need_i ?_ ?_); · (first | omega | (simp <;> omega))))
        intro _u; clear _u
        refine ICall.pure h.n7.o7.hb (works17_c h.n7) rfl ?_
        repeat ((intro _u; clear _u); first
          | (with_reducible refine acnd_tt ?_)
          | (with_reducible refine acnd_ff ?_)
          | ((with_reducible refine iwr_in ?_ ?_); · (simp only [inI]; omega))
          | ((with_reducible refine need_i ?_ ?_); · (first | omega | (simp <;> omega))))
        intro _u; clear _u
        refine IRet.of ?_
        all_goals repeat' (first | exact True.intro | refine And.intro ?_ ?_ | (intro _u; clear _u) | (with_reducible refine fzEs_same ?_ ?_ ?_) | (with_reducible refine mtEs_same ?_ ?_))
        all_goals first | (with_reducible rfl) | omega | (simp; done) | (simp only [AV.namesL, AV.names, List.append_nil]; done) | (simp [AV.namesL]; done) | (simp [AV.namesL, AV.names]; done) | exact Or.inl (by decide) | exact Or.inr (by simp [AV.namesL, AV.names]) | skip
      · refine aix_n 3 rfl rfl ?_
        repeat ((intro _u; clear _u); first
          | (with_reducible refine acnd_tt ?_)
          | (with_reducible refine acnd_ff ?_)
          | ((with_reducible refine iwr_in ?_ ?_); · (simp only [inI]; omega))
          | ((with_reducible refine need_i ?_ ?_); · (first | omega | (simp <;> omega))))
        intro _u; clear _u
        refine acnd_t (by first | rfl | simp [bits]) ?_
        repeat ((intro _u; clear _u); first
          | (with_reducible refine acnd_tt ?_)
          | (with_reducible refine acnd_ff ?_)
          | ((with_reducible refine iwr_in ?_ ?_); · (simp only [inI]; omega))
          | ((with_reducible refine need_i ?_ ?_); · (first | omega | (simp <;> omega))))
        intro _u; clear _u
        refine ICall.pure h.n12.o12.hb (sees_c h.n12 m0 m1 m2 m3 m4 m5 m6 m7 3) rfl ?_
        repeat ((intro _u; clear _u); first
          | (with_reducible refine acnd_tt ?_)
          | (with_reducible refine acnd_ff ?_)
          | ((with_reducible refine iwr_in ?_ ?_); · (simp only [inI]; omega))
          | ((with_reducible refine need_i ?_ ?_); · (first | omega | (simp <;> omega))))
        intro _u; clear _u
        refine acnd_t (by (simp [bits]; rw [Bool.eq_iff_iff]; simp; omega)) ?_
        repeat ((intro _u; clear _u); first
          | (with_reducible refine acnd_tt ?_)
          | (with_reducible refine acnd_ff ?_)
          | ((with_reducible refine iwr_in ?_ ?_); · (simp only [inI]; omega))
          | ((with_reducible refine need_i ?_ ?_); · (first | omega | (simp <;> omega))))
        intro _u; clear _u
        refine ICall.pure h.n7.o7.hb (works17_c h.n7) rfl ?_
        repeat ((intro _u; clear _u); first
          | (with_reducible refine acnd_tt ?_)
          | (with_reducible refine acnd_ff ?_)
          | ((with_reducible refine iwr_in ?_ ?_); · (simp only [inI]; omega))
          | ((with_reducible refine need_i ?_ ?_); · (first | omega | (simp <;> omega))))
        intro _u; clear _u
        refine IRet.of ?_
        all_goals repeat' (first | exact True.intro | refine And.intro ?_ ?_ | (intro _u; clear _u) | (with_reducible refine fzEs_same ?_ ?_ ?_) | (with_reducible refine mtEs_same ?_ ?_))
        all_goals first | (with_reducible rfl) | omega | (simp; done) | (simp only [AV.namesL, AV.names, List.append_nil]; done) | (simp [AV.namesL]; done) | (simp [AV.namesL, AV.names]; done) | exact Or.inl (by decide) | exact Or.inr (by simp [AV.namesL, AV.names]) | skip
      · refine aix_n 4 rfl rfl ?_
        repeat ((intro _u; clear _u); first
          | (with_reducible refine acnd_tt ?_)
          | (with_reducible refine acnd_ff ?_)
          | ((with_reducible refine iwr_in ?_ ?_); · (simp only [inI]; omega))
          | ((with_reducible refine need_i ?_ ?_); · (first | omega | (simp <;> omega))))
        intro _u; clear _u
        refine acnd_t (by first | rfl | simp [bits]) ?_
        repeat ((intro _u; clear _u); first
          | (with_reducible refine acnd_tt ?_)
          | (with_reducible refine acnd_ff ?_)
          | ((with_reducible refine iwr_in ?_ ?_); · (simp only [inI]; omega))
          | ((with_reducible refine need_i ?_ ?_); · (first | omega | (simp <;> omega))))
        intro _u; clear _u
        refine ICall.pure h.n12.o12.hb (sees_c h.n12 m0 m1 m2 m3 m4 m5 m6 m7 4) rfl ?_
        repeat ((intro _u; clear _u); first
          | (with_reducible refine acnd_tt ?_)
          | (with_reducible refine acnd_ff ?_)
          | ((with_reducible refine iwr_in ?_ ?_); · (simp only [inI]; omega))
          | ((with_reducible refine need_i ?_ ?_); · (first | omega | (simp <;> omega))))
        intro _u; clear _u
        refine acnd_t (by (simp [bits]; rw [Bool.eq_iff_iff]; simp; omega)) ?_
        repeat ((intro _u; clear _u); first
          | (with_reducible refine acnd_tt ?_)
          | (with_reducible refine acnd_ff ?_)
          | ((with_reducible refine iwr_in ?_ ?_); · (simp only [inI]; omega))
          | ((with_reducible refine need_i ?_ ?_); · (first | omega | (simp <;> omega))))
        intro _u; clear _u
        refine ICall.pure h.n7.o7.hb (works17_c h.n7) rfl ?_
        repeat ((intro _u; clear _u); first
          | (with_reducible refine acnd_tt ?_)
          | (with_reducible refine acnd_ff ?_)
          | ((with_reducible refine iwr_in ?_ ?_); · (simp only [inI]; omega))
          | ((with_reducible refine need_i ?_ ?_); · (first | omega | (simp <;> omega))))
        intro _u; clear _u
        refine IRet.of ?_
        all_goals repeat' (first | exact True.intro | refine And.intro ?_ ?_ | (intro _u; clear _u) | (with_reducible refine fzEs_same ?_ ?_ ?_) | (with_reducible refine mtEs_same ?_ ?_))
        all_goals first | (with_reducible rfl) | omega | (simp; done) | (simp only [AV.namesL, AV.names, List.append_nil]; done) | (simp [AV.namesL]; done) | (simp [AV.namesL, AV.names]; done) | exact Or.inl (by decide) | exact Or.inr (by simp [AV.namesL, AV.names]) | skip
      · refine aix_n 5 rfl rfl ?_
        repeat ((intro _u; clear _u); first
          | (with_reducible refine acnd_tt ?_)
          | (with_reducible refine acnd_ff ?_)
          | ((with_reducible refine iwr_in ?_ ?_); · (simp only [inI]; omega))
          | ((with_reducible refine need_i ?_ ?_); · (first | omega | (simp <;> omega))))
        intro _u; clear _u
        refine acnd_t (by first | rfl | simp [bits]) ?_
        repeat ((intro _u; clear _u); first
          | (with_reducible refine acnd_tt ?_)
          | (with_reducible refine acnd_ff ?_)
          | ((with_reducible refine iwr_in ?_ ?_); · (simp only [inI]; omega))
          | ((with_reducible refine need_i ?_ ?_); · (first | omega | (simp <;> omega))))
        intro _u; clear _u
        refine ICall.pure h.n12.o12.hb (sees_c h.n12 m0 m1 m2 m3 m4 m5 m6 m7 5) rfl ?_
        repeat ((intro _u; clear _u); first
          | (with_reducible refine acnd_tt ?_)
          | (with_reducible refine acnd_ff ?_)
          | ((with_reducible refine iwr_in ?_ ?_); · (simp only [inI]; omega))
          | ((with_reducible refine need_i ?_ ?_); · (first | omega | (simp <;> omega))))
        intro _u; clear _u
        refine acnd_t (by (simp [bits]; rw [Bool.eq_iff_iff]; simp; omega)) ?_
        repeat ((intro _u; clear _u); first
          | (with_reducible refine acnd_tt ?_)
          | (with_reducible refine acnd_ff ?_)
          | ((with_reducible refine iwr_in ?_ ?_); · (simp only [inI]; omega))
          | ((with_reducible refine need_i ?_ ?_); · (first | omega | (simp <;> omega))))
        intro _u; clear _u
        refine ICall.pure h.n7.o7.hb (works17_c h.n7) rfl ?_
        repeat ((intro _u; clear _u); first
          | (with_reducible refine acnd_tt ?_)
          | (with_reducible refine acnd_ff ?_)
          | ((with_reducible refine iwr_in ?_ ?_); · (simp only [inI]; omega))
          | ((with_reducible refine need_i ?_ ?_); · (first | omega | (simp <;> omega))))
        intro _u; clear _u
        refine IRet.of ?_
        all_goals repeat' (first | exact True.intro | refine And.intro ?_ ?_ | (intro _u; clear _u) | (with_reducible refine fzEs_same ?_ ?_ ?_) | (with_reducible refine mtEs_same ?_ ?_))
        all_goals first | (with_reducible rfl) | omega | (simp; done) | (simp only [AV.namesL, AV.names, List.append_nil]; done) | (simp [AV.namesL]; done) | (simp [AV.namesL, AV.names]; done) | exact Or.inl (by decide) | exact Or.inr (by simp [AV.namesL, AV.names]) | skip
      · refine aix_n 6 rfl rfl ?_
        repeat ((intro _u; clear _u); first
          | (with_reducible refine acnd_tt ?_)
          | (with_reducible refine acnd_ff ?_)
          | ((with_reducible refine iwr_in ?_ ?_); · (simp only [inI]; omega))
          | ((with_reducible refine need_i ?_ ?_); · (first | omega | (simp <;> omega))))
        intro _u; clear _u
        refine acnd_t (by first | rfl | simp [bits]) ?_
        repeat ((intro _u; clear _u); first
          | (with_reducible refine acnd_tt ?_)
          | (with_reducible refine acnd_ff ?_)
          | ((with_reducible refine iwr_in ?_ ?_); · (simp only [inI]; omega))
          | ((with_reducible refine need_i ?_ ?_); · (first | omega | (simp <;> omega))))
        intro _u; clear _u
        refine ICall.pure h.n12.o12.hb (sees_c h.n12 m0 m1 m2 m3 m4 m5 m6 m7 6) rfl ?_
        repeat ((intro _u; clear _u); first
          | (with_reducible refine acnd_tt ?_)
          | (with_reducible refine acnd_ff ?_)
          | ((with_reducible refine iwr_in ?_ ?_); · (simp only [inI]; omega))
          | ((with_reducible refine need_i ?_ ?_); · (first | omega | (simp <;> omega))))
        intro _u; clear _u
        refine acnd_t (by (simp [bits]; rw [Bool.eq_iff_iff]; simp; omega)) ?_
        repeat ((intro _u; clear _u); first
          | (with_reducible refine acnd_tt ?_)
          | (with_reducible refine acnd_ff ?_)
          | ((with_reducible refine iwr_in ?_ ?_); · (simp only [inI]; omega))
          | ((with_reducible refine need_i ?_ ?_); · (first | omega | (simp <;> omega))))
        intro _u; clear _u
        refine ICall.pure h.n7.o7.hb (works17_c h.n7) rfl ?_
        repeat ((intro _u; clear _u); first
          | (with_reducible refine acnd_tt ?_)
          | (with_reducible refine acnd_ff ?_)
          | ((with_reducible refine iwr_in ?_ ?_); · (simp only [inI]; omega))
          | ((with_reducible refine need_i ?_ ?_); · (first | omega | (simp <;> omega))))
        intro _u; clear _u
        refine IRet.of ?_
        all_goals repeat' (first | exact True.intro | refine And.intro ?_ ?_ | (intro _u; clear _u) | (with_reducible refine fzEs_same ?_ ?_ ?_) | (with_reducible refine mtEs_same ?_ ?_))
        all_goals first | (with_reducible rfl) | omega | (simp; done) | (simp only [AV.namesL, AV.names, List.append_nil]; done) | (simp [AV.namesL]; done) | (simp [AV.namesL, AV.names]; done) | exact Or.inl (by decide) | exact Or.inr (by simp [AV.namesL, AV.names]) | skip
      · refine aix_n 7 rfl rfl ?_
        repeat ((intro _u; clear _u); first
          | (with_reducible refine acnd_tt ?_)
          | (with_reducible refine acnd_ff ?_)
          | ((with_reducible refine iwr_in ?_ ?_); · (simp only [inI]; omega))
          | ((with_reducible refine need_i ?_ ?_); · (first | omega | (simp <;> omega))))
        intro _u; clear _u
        refine acnd_t (by first | rfl | simp [bits]) ?_
        repeat ((intro _u; clear _u); first
          | (with_reducible refine acnd_tt ?_)
          | (with_reducible refine acnd_ff ?_)
          | ((with_reducible refine iwr_in ?_ ?_); · (simp only [inI]; omega))
          | ((with_reducible refine need_i ?_ ?_); · (first | omega | (simp <;> omega))))
        intro _u; clear _u
        refine ICall.pure h.n12.o12.hb (sees_c h.n12 m0 m1 m2 m3 m4 m5 m6 m7 7) rfl ?_
        repeat ((intro _u; clear _u); first
          | (with_reducible refine acnd_tt ?_)
          | (with_reducible refine acnd_ff ?_)
          | ((with_reducible refine iwr_in ?_ ?_); · (simp only [inI]; omega))
          | ((with_reducible refine need_i ?_ ?_); · (first | omega | (simp <;> omega))))
        intro _u; clear _u
        refine acnd_t (by (simp [bits]; rw [Bool.eq_iff_iff]; simp; omega)) ?_
        repeat ((intro _u; clear _u); first
          | (with_reducible refine acnd_tt ?_)
          | (with_reducible refine acnd_ff ?_)
          | ((with_reducible refine iwr_in ?_ ?_); · (simp only [inI]; omega))
          | ((with_reducible refine need_i ?_ ?_); · (first | omega | (simp <;> omega))))
        intro _u; clear _u
        refine ICall.pure h.n7.o7.hb (works17_c h.n7) rfl ?_
        repeat ((intro _u; clear _u); first
          | (with_reducible refine acnd_tt ?_)
          | (with_reducible refine acnd_ff ?_)
          | ((with_reducible refine iwr_in ?_ ?_); · (simp only [inI]; omega))
          | ((with_reducible refine need_i ?_ ?_); · (first | omega | (simp <;> omega))))
        intro _u; clear _u
        refine IRet.of ?_
        all_goals repeat' (first | exact True.intro | refine And.intro ?_ ?_ | (intro _u; clear _u) | (with_reducible refine fzEs_same ?_ ?_ ?_) | (with_reducible refine mtEs_same ?_ ?_))
        all_goals first | (with_reducible rfl) | omega | (simp; done) | (simp only [AV.namesL, AV.names, List.append_nil]; done) | (simp [AV.namesL]; done) | (simp [AV.namesL, AV.names]; done) | exact Or.inl (by decide) | exact Or.inr (by simp [AV.namesL, AV.names]) | skip

def bel (x y : BitVec 32) : Bool := x &&& ~~~y == 0#32

theorem bel_eq (x y : BitVec 32) : (bit2 .andNot .u32 (x.toNat : Int) (y.toNat : Int) == 0) = bel x y := by
  have e : bit2 .andNot .u32 (x.toNat : Int) (y.toNat : Int) = IntKind.wrap .u32 ((BitVec.ofInt 32 (x.toNat : Int) &&& ~~~(BitVec.ofInt 32 (y.toNat : Int))).toNat : Int) := rfl
  rw [e, ofInt_toNat32, ofInt_toNat32]
  unfold bel
  generalize x &&& ~~~y = v
  have hv := v.isLt
  rw [show IntKind.wrap .u32 (v.toNat : Int) = (v.toNat : Int) from wr_in (k := .u32) ⟨by omega, by omega⟩]
  rw [Bool.eq_iff_iff, beq_iff_eq, beq_iff_eq]
  constructor
  · intro h; exact BitVec.eq_of_toNat_eq (by simpa using h)
  · intro h; rw [h]; rfl

theorem below_v {R : Env} (h : N6 R) (x y : BitVec 32) : R.Pc 6 [.int .u32 x.toNat, .int .u32 y.toNat] (.bool (bel x y)) := by
  have := below_c h (x.toNat : Int) (y.toNat : Int)
  rwa [bel_eq] at this

theorem take_min {α : Type} (l : List α) (n : Nat) : l.take (min (l.length : Int) (n : Int)).toNat = l.take n := by
  rcases Nat.le_total l.length n with h | h
  · rw [show (min (l.length : Int) (n : Int)).toNat = l.length by omega, List.take_of_length_le (Nat.le_refl _), List.take_of_length_le h]
  · rw [show (min (l.length : Int) (n : Int)).toNat = n by omega]

def vs32 (l : List (BitVec 32)) : List (List AV) := l.map fun v => [.int .u32 v.toNat]

@[simp] theorem vs32_length (l : List (BitVec 32)) : (vs32 l).length = l.length := by simp [vs32]

theorem join_s {R : Env} (h : N4 R) (l : List (BitVec 32)) (hl : (l.length : Int) ≤ 9223372036854775807) : R.Pc 4 [.isl 1 (vs32 l)] (.int .u32 ((orL l 0).toNat : Int)) := by
  have := join_v h l hl
  simp only [slc32, List.map_map] at this
  exact this

theorem bel_or (x y z : BitVec 32) : bel (x ||| y) z = (bel x z && bel y z) := by
  unfold bel
  rw [Bool.eq_iff_iff]
  simp only [beq_iff_eq, Bool.and_eq_true]
  constructor
  · intro h
    constructor
    · ext i hi
      have := congrArg (·.getLsbD i) h
      simp [hi] at this ⊢
      intro h1; exact (this (Or.inl h1))
    · ext i hi
      have := congrArg (·.getLsbD i) h
      simp [hi] at this ⊢
      intro h1; exact (this (Or.inr h1))
  · rintro ⟨h1, h2⟩
    ext i hi
    have e1 := congrArg (·.getLsbD i) h1
    have e2 := congrArg (·.getLsbD i) h2
    simp [hi] at e1 e2 ⊢
    rintro (h | h)
    · exact e1 h
    · exact e2 h

theorem bel_orL (z : BitVec 32) : ∀ (l : List (BitVec 32)) (s : BitVec 32), bel (orL l s) z = (bel s z && l.all (bel · z))
  | [], s => by simp [orL]
  | x :: l, s => by
    have := bel_orL z l (s ||| x)
    simp only [orL, List.foldl_cons, List.all_cons] at this ⊢
    rw [this, bel_or, Bool.and_assoc]

theorem bel_zero (z : BitVec 32) : bel 0 z = true := by simp [bel]
theorem bel_self (z : BitVec 32) : bel z z = true := by simp [bel]
theorem bel_all (l : List (BitVec 32)) (z : BitVec 32) : bel (orL l 0) z = l.all (bel · z) := by rw [bel_orL, bel_zero, Bool.true_and]
theorem bel_mem {l : List (BitVec 32)} {x : BitVec 32} (h : x ∈ l) : bel x (orL l 0) = true := by
  have := bel_all l (orL l 0)
  rw [bel_self] at this
  exact List.all_eq_true.1 this.symm x h
theorem bel_iff {x y : BitVec 32} : bel x y = true ↔ ∀ i, i < 32 → x.getLsbD i = true → y.getLsbD i = true := by
  unfold bel
  rw [beq_iff_eq]
  constructor
  · intro h i hi h1
    have := congrArg (·.getLsbD i) h
    simpa [hi, h1] using this
  · intro h
    ext i hi
    simp [hi]
    exact h i hi
theorem bel_trans {x y z : BitVec 32} (h : bel x y = true) (k : bel y z = true) : bel x z = true := by
  rw [bel_iff] at *
  exact fun i hi h1 => k i hi (h i hi h1)
theorem bel_anti {x y : BitVec 32} : (bel x y && bel y x) = (x == y) := by
  rw [Bool.eq_iff_iff]
  simp only [Bool.and_eq_true, beq_iff_eq, bel_iff]
  constructor
  · rintro ⟨h, k⟩
    ext i hi
    rw [Bool.eq_iff_iff]
    exact ⟨h i hi, k i hi⟩
  · rintro rfl
    exact ⟨fun _ _ h => h, fun _ _ h => h⟩
theorem nat_beq32 (x y : BitVec 32) : ((x.toNat : Int) == (y.toNat : Int)) = (x == y) := by
  rw [Bool.eq_iff_iff, beq_iff_eq, beq_iff_eq]
  constructor
  · intro h; exact BitVec.eq_of_toNat_eq (by omega)
  · rintro rfl; rfl


theorem least_c {R : Env} (h : N8 R) (l : List (BitVec 32)) (a b : BitVec 32) : R.Pc 8 [.isl 1 (vs32 l), .int .u32 a.toNat, .int .u32 b.toNat] (.bool true) :=
  h.o8.enter 200 rfl fun X bb hfit hp => by
    repeat ((intro _u; clear _u); first
      | (with_reducible refine acnd_tt ?_)
      | (with_reducible refine acnd_ff ?_)
      | ((with_reducible refine iwr_in ?_ ?_); · (simp only [inI]; omega))
      | ((with_reducible refine need_i ?_ ?_); · (first | omega | (simp <;> omega))))
    intro _u; clear _u
    refine asub_eq (by exact (show (vs32 l).take (min ((vs32 l).length : Int) 8).toNat = vs32 (l.take 8) from by rw [show (8 : Int) = ((8 : Nat) : Int) from rfl, take_min]; simp [vs32, List.map_take])) ?_
    have hl8 : (l.take 8).length ≤ 8 := by simp; omega
    generalize l.take 8 = l at hl8 ⊢
    repeat ((intro _u; clear _u); first
      | (with_reducible refine acnd_tt ?_)
      | (with_reducible refine acnd_ff ?_)
      | ((with_reducible refine iwr_in ?_ ?_); · (simp only [inI]; omega))
      | ((with_reducible refine need_i ?_ ?_); · (first | omega | (simp <;> omega))))
    intro _u; clear _u
    refine ICall.pure h.n4.o4.hb (join_s h.n4 l (by omega)) rfl ?_
    repeat ((intro _u; clear _u); first
      | (with_reducible refine acnd_tt ?_)
      | (with_reducible refine acnd_ff ?_)
      | ((with_reducible refine iwr_in ?_ ?_); · (simp only [inI]; omega))
      | ((with_reducible refine need_i ?_ ?_); · (first | omega | (simp <;> omega))))
    intro _u; clear _u
    refine ILoop.inv 60 (fun k : Nat => k ≤ l.length) (fun k => ⟨[(1, .int .u32 a.toNat), (2, .int .u32 b.toNat), (7, .int .u32 (orL l 0).toNat), (8, .bool ((l.take k).all (bel · a))), (18, .isl 1 (vs32 l)), (19, .int .i64 l.length), (20, .int .i64 k)], [], 0⟩) (fun k => l.length - k) (0) ?_ ⟨hp, ?_, ?_⟩ ?_
    · exact Nat.zero_le _
    · all_goals repeat' (first | exact True.intro | refine And.intro ?_ ?_ | (intro _u; clear _u) | (with_reducible refine fzEs_same ?_ ?_ ?_) | (with_reducible refine mtEs_same ?_ ?_))
      all_goals first | (with_reducible rfl) | omega | (simp; done) | (simp only [AV.namesL, AV.names, List.append_nil]; done) | (simp [AV.namesL]; done) | (simp [AV.namesL, AV.names]; done) | exact Or.inl (by decide) | exact Or.inr (by simp [AV.namesL, AV.names]) | skip
    · all_goals repeat' (first | exact True.intro | refine And.intro ?_ ?_ | (intro _u; clear _u) | (with_reducible refine fzEs_same ?_ ?_ ?_) | (with_reducible refine mtEs_same ?_ ?_))
      all_goals first | (with_reducible rfl) | omega | (simp; done) | (simp only [AV.namesL, AV.names, List.append_nil]; done) | (simp [AV.namesL]; done) | (simp [AV.namesL, AV.names]; done) | exact Or.inl (by decide) | exact Or.inr (by simp [AV.namesL, AV.names]) | skip
    · intro k hk
      dsimp only
      repeat ((intro _u; clear _u); first
        | (with_reducible refine acnd_tt ?_)
        | (with_reducible refine acnd_ff ?_)
        | ((with_reducible refine iwr_in ?_ ?_); · (simp only [inI]; omega))
        | ((with_reducible refine need_i ?_ ?_); · (first | omega | (simp <;> omega))))
      intro _u; clear _u
      refine acnd_i (fun h1 => ?_) (fun h1 => ?_)
      all_goals repeat (first | simp only [decide_eq_true_eq] at h1 | simp only [decide_eq_false_iff_not] at h1 | simp only [beq_iff_eq] at h1 | simp only [bne_iff_ne] at h1 | simp only [beq_eq_false_iff_ne] at h1 | simp only [bne_eq_false_iff_eq] at h1 | simp only [Bool.not_eq_true'] at h1 | simp only [Bool.not_eq_false'] at h1 | simp only [Int.not_lt] at h1 | simp only [Int.not_le] at h1 | simp only [Bool.and_eq_true] at h1 | simp only [Bool.or_eq_true] at h1 | simp only [gt_iff_lt] at h1 | simp only [ge_iff_le] at h1 | simp only [ne_eq] at h1 | simp only [Decidable.not_not] at h1)
      · obtain ⟨x, hx⟩ : ∃ x, l[k]? = some x := ⟨_, List.getElem?_eq_getElem (by first | omega | (simp <;> omega))⟩
        repeat ((intro _u; clear _u); first
          | (with_reducible refine acnd_tt ?_)
          | (with_reducible refine acnd_ff ?_)
          | ((with_reducible refine iwr_in ?_ ?_); · (simp only [inI]; omega))
          | ((with_reducible refine need_i ?_ ?_); · (first | omega | (simp <;> omega))))
        intro _u; clear _u
        refine eget_map hx ?_
        repeat ((intro _u; clear _u); first
          | (with_reducible refine acnd_tt ?_)
          | (with_reducible refine acnd_ff ?_)
          | ((with_reducible refine iwr_in ?_ ?_); · (simp only [inI]; omega))
          | ((with_reducible refine need_i ?_ ?_); · (first | omega | (simp <;> omega))))
        intro _u; clear _u
        refine ICall.pure h.n6.o6.hb (below_v h.n6 _ _) rfl ?_
        repeat ((intro _u; clear _u); first
          | (with_reducible refine acnd_tt ?_)
          | (with_reducible refine acnd_ff ?_)
          | ((with_reducible refine iwr_in ?_ ?_); · (simp only [inI]; omega))
          | ((with_reducible refine need_i ?_ ?_); · (first | omega | (simp <;> omega))))
        intro _u; clear _u
        refine acnd_f (by rw [bel_mem (List.mem_of_getElem? hx)]; rfl) ?_
        repeat ((intro _u; clear _u); first
          | (with_reducible refine acnd_tt ?_)
          | (with_reducible refine acnd_ff ?_)
          | ((with_reducible refine iwr_in ?_ ?_); · (simp only [inI]; omega))
          | ((with_reducible refine need_i ?_ ?_); · (first | omega | (simp <;> omega))))
        intro _u; clear _u
        refine acnd_i (fun h2 => ?_) (fun h2 => ?_)
        all_goals repeat (first | simp only [decide_eq_true_eq] at h2 | simp only [decide_eq_false_iff_not] at h2 | simp only [beq_iff_eq] at h2 | simp only [bne_iff_ne] at h2 | simp only [beq_eq_false_iff_ne] at h2 | simp only [bne_eq_false_iff_eq] at h2 | simp only [Bool.not_eq_true'] at h2 | simp only [Bool.not_eq_false'] at h2 | simp only [Int.not_lt] at h2 | simp only [Int.not_le] at h2 | simp only [Bool.and_eq_true] at h2 | simp only [Bool.or_eq_true] at h2 | simp only [gt_iff_lt] at h2 | simp only [ge_iff_le] at h2 | simp only [ne_eq] at h2 | simp only [Decidable.not_not] at h2)
        · repeat ((intro _u; clear _u); first
            | (with_reducible refine acnd_tt ?_)
            | (with_reducible refine acnd_ff ?_)
            | ((with_reducible refine iwr_in ?_ ?_); · (simp only [inI]; omega))
            | ((with_reducible refine need_i ?_ ?_); · (first | omega | (simp <;> omega))))
          intro _u; clear _u
          refine ICall.pure h.n6.o6.hb (below_v h.n6 _ _) rfl ?_
          repeat ((intro _u; clear _u); first
            | (with_reducible refine acnd_tt ?_)
            | (with_reducible refine acnd_ff ?_)
            | ((with_reducible refine iwr_in ?_ ?_); · (simp only [inI]; omega))
            | ((with_reducible refine need_i ?_ ?_); · (first | omega | (simp <;> omega))))
          intro _u; clear _u
          refine ⟨k + 1, ?_, ?_, hp, ?_, ?_⟩
          · omega
          · omega
          · all_goals repeat' (first | exact True.intro | refine And.intro ?_ ?_ | (intro _u; clear _u) | (with_reducible refine fzEs_same ?_ ?_ ?_) | (with_reducible refine mtEs_same ?_ ?_))
            all_goals first | (with_reducible rfl) | omega | (simp; done) | (simp only [AV.namesL, AV.names, List.append_nil]; done) | (simp [AV.namesL]; done) | (simp [AV.namesL, AV.names]; done) | exact Or.inl (by decide) | exact Or.inr (by simp [AV.namesL, AV.names]) | skip
            rw [List.take_add_one, hx, List.all_append, h2]; simp
          · all_goals repeat' (first | exact True.intro | refine And.intro ?_ ?_ | (intro _u; clear _u) | (with_reducible refine fzEs_same ?_ ?_ ?_) | (with_reducible refine mtEs_same ?_ ?_))
            all_goals first | (with_reducible rfl) | omega | (simp; done) | (simp only [AV.namesL, AV.names, List.append_nil]; done) | (simp [AV.namesL]; done) | (simp [AV.namesL, AV.names]; done) | exact Or.inl (by decide) | exact Or.inr (by simp [AV.namesL, AV.names]) | skip
        · repeat ((intro _u; clear _u); first
            | (with_reducible refine acnd_tt ?_)
            | (with_reducible refine acnd_ff ?_)
            | ((with_reducible refine iwr_in ?_ ?_); · (simp only [inI]; omega))
            | ((with_reducible refine need_i ?_ ?_); · (first | omega | (simp <;> omega))))
          intro _u; clear _u
          refine ⟨k + 1, ?_, ?_, hp, ?_, ?_⟩
          · omega
          · omega
          · all_goals repeat' (first | exact True.intro | refine And.intro ?_ ?_ | (intro _u; clear _u) | (with_reducible refine fzEs_same ?_ ?_ ?_) | (with_reducible refine mtEs_same ?_ ?_))
            all_goals first | (with_reducible rfl) | omega | (simp; done) | (simp only [AV.namesL, AV.names, List.append_nil]; done) | (simp [AV.namesL]; done) | (simp [AV.namesL, AV.names]; done) | exact Or.inl (by decide) | exact Or.inr (by simp [AV.namesL, AV.names]) | skip
            rw [List.take_add_one, hx, List.all_append, h2]; simp
          · all_goals repeat' (first | exact True.intro | refine And.intro ?_ ?_ | (intro _u; clear _u) | (with_reducible refine fzEs_same ?_ ?_ ?_) | (with_reducible refine mtEs_same ?_ ?_))
            all_goals first | (with_reducible rfl) | omega | (simp; done) | (simp only [AV.namesL, AV.names, List.append_nil]; done) | (simp [AV.namesL]; done) | (simp [AV.namesL, AV.names]; done) | exact Or.inl (by decide) | exact Or.inr (by simp [AV.namesL, AV.names]) | skip
      · have e : (l.take k) = l := List.take_of_length_le (by omega)
        rw [e]
        repeat ((intro _u; clear _u); first
          | (with_reducible refine acnd_tt ?_)
          | (with_reducible refine acnd_ff ?_)
          | ((with_reducible refine iwr_in ?_ ?_); · (simp only [inI]; omega))
          | ((with_reducible refine need_i ?_ ?_); · (first | omega | (simp <;> omega))))
        intro _u; clear _u
        refine ICall.pure h.n6.o6.hb (below_v h.n6 _ _) rfl ?_
        repeat ((intro _u; clear _u); first
          | (with_reducible refine acnd_tt ?_)
          | (with_reducible refine acnd_ff ?_)
          | ((with_reducible refine iwr_in ?_ ?_); · (simp only [inI]; omega))
          | ((with_reducible refine need_i ?_ ?_); · (first | omega | (simp <;> omega))))
        intro _u; clear _u
        refine acnd_f (by rw [bel_all]; simp) ?_
        repeat ((intro _u; clear _u); first
          | (with_reducible refine acnd_tt ?_)
          | (with_reducible refine acnd_ff ?_)
          | ((with_reducible refine iwr_in ?_ ?_); · (simp only [inI]; omega))
          | ((with_reducible refine need_i ?_ ?_); · (first | omega | (simp <;> omega))))
        intro _u; clear _u
        refine ICall.pure h.n6.o6.hb (below_v h.n6 _ _) rfl ?_
        repeat ((intro _u; clear _u); first
          | (with_reducible refine acnd_tt ?_)
          | (with_reducible refine acnd_ff ?_)
          | ((with_reducible refine iwr_in ?_ ?_); · (simp only [inI]; omega))
          | ((with_reducible refine need_i ?_ ?_); · (first | omega | (simp <;> omega))))
        intro _u; clear _u
        refine acnd_i (fun h2 => ?_) (fun h2 => ?_)
        all_goals repeat (first | simp only [decide_eq_true_eq] at h2 | simp only [decide_eq_false_iff_not] at h2 | simp only [beq_iff_eq] at h2 | simp only [bne_iff_ne] at h2 | simp only [beq_eq_false_iff_ne] at h2 | simp only [bne_eq_false_iff_eq] at h2 | simp only [Bool.not_eq_true'] at h2 | simp only [Bool.not_eq_false'] at h2 | simp only [Int.not_lt] at h2 | simp only [Int.not_le] at h2 | simp only [Bool.and_eq_true] at h2 | simp only [Bool.or_eq_true] at h2 | simp only [gt_iff_lt] at h2 | simp only [ge_iff_le] at h2 | simp only [ne_eq] at h2 | simp only [Decidable.not_not] at h2)
        · repeat ((intro _u; clear _u); first
            | (with_reducible refine acnd_tt ?_)
            | (with_reducible refine acnd_ff ?_)
            | ((with_reducible refine iwr_in ?_ ?_); · (simp only [inI]; omega))
            | ((with_reducible refine need_i ?_ ?_); · (first | omega | (simp <;> omega))))
          intro _u; clear _u
          refine ICall.pure h.n6.o6.hb (below_v h.n6 _ _) rfl ?_
          repeat ((intro _u; clear _u); first
            | (with_reducible refine acnd_tt ?_)
            | (with_reducible refine acnd_ff ?_)
            | ((with_reducible refine iwr_in ?_ ?_); · (simp only [inI]; omega))
            | ((with_reducible refine need_i ?_ ?_); · (first | omega | (simp <;> omega))))
          intro _u; clear _u
          refine acnd_i (fun h3 => ?_) (fun h3 => ?_)
          all_goals repeat (first | simp only [decide_eq_true_eq] at h3 | simp only [decide_eq_false_iff_not] at h3 | simp only [beq_iff_eq] at h3 | simp only [bne_iff_ne] at h3 | simp only [beq_eq_false_iff_ne] at h3 | simp only [bne_eq_false_iff_eq] at h3 | simp only [Bool.not_eq_true'] at h3 | simp only [Bool.not_eq_false'] at h3 | simp only [Int.not_lt] at h3 | simp only [Int.not_le] at h3 | simp only [Bool.and_eq_true] at h3 | simp only [Bool.or_eq_true] at h3 | simp only [gt_iff_lt] at h3 | simp only [ge_iff_le] at h3 | simp only [ne_eq] at h3 | simp only [Decidable.not_not] at h3)
          · repeat ((intro _u; clear _u); first
              | (with_reducible refine acnd_tt ?_)
              | (with_reducible refine acnd_ff ?_)
              | ((with_reducible refine iwr_in ?_ ?_); · (simp only [inI]; omega))
              | ((with_reducible refine need_i ?_ ?_); · (first | omega | (simp <;> omega))))
            intro _u; clear _u
            refine ICall.pure h.n6.o6.hb (below_v h.n6 _ _) rfl ?_
            repeat ((intro _u; clear _u); first
              | (with_reducible refine acnd_tt ?_)
              | (with_reducible refine acnd_ff ?_)
              | ((with_reducible refine iwr_in ?_ ?_); · (simp only [inI]; omega))
              | ((with_reducible refine need_i ?_ ?_); · (first | omega | (simp <;> omega))))
            intro _u; clear _u
            refine acnd_f (by rw [bel_trans h2 h3]; rfl) ?_
            repeat ((intro _u; clear _u); first
              | (with_reducible refine acnd_tt ?_)
              | (with_reducible refine acnd_ff ?_)
              | ((with_reducible refine iwr_in ?_ ?_); · (simp only [inI]; omega))
              | ((with_reducible refine need_i ?_ ?_); · (first | omega | (simp <;> omega))))
            intro _u; clear _u
            refine ICall.pure h.n6.o6.hb (below_v h.n6 _ _) rfl ?_
            repeat ((intro _u; clear _u); first
              | (with_reducible refine acnd_tt ?_)
              | (with_reducible refine acnd_ff ?_)
              | ((with_reducible refine iwr_in ?_ ?_); · (simp only [inI]; omega))
              | ((with_reducible refine need_i ?_ ?_); · (first | omega | (simp <;> omega))))
            intro _u; clear _u
            refine acnd_i (fun h4 => ?_) (fun h4 => ?_)
            all_goals repeat (first | simp only [decide_eq_true_eq] at h4 | simp only [decide_eq_false_iff_not] at h4 | simp only [beq_iff_eq] at h4 | simp only [bne_iff_ne] at h4 | simp only [beq_eq_false_iff_ne] at h4 | simp only [bne_eq_false_iff_eq] at h4 | simp only [Bool.not_eq_true'] at h4 | simp only [Bool.not_eq_false'] at h4 | simp only [Int.not_lt] at h4 | simp only [Int.not_le] at h4 | simp only [Bool.and_eq_true] at h4 | simp only [Bool.or_eq_true] at h4 | simp only [gt_iff_lt] at h4 | simp only [ge_iff_le] at h4 | simp only [ne_eq] at h4 | simp only [Decidable.not_not] at h4)
            · repeat ((intro _u; clear _u); first
                | (with_reducible refine acnd_tt ?_)
                | (with_reducible refine acnd_ff ?_)
                | ((with_reducible refine iwr_in ?_ ?_); · (simp only [inI]; omega))
                | ((with_reducible refine need_i ?_ ?_); · (first | omega | (simp <;> omega))))
              intro _u; clear _u
              refine ICall.pure h.n6.o6.hb (below_v h.n6 _ _) rfl ?_
              repeat ((intro _u; clear _u); first
                | (with_reducible refine acnd_tt ?_)
                | (with_reducible refine acnd_ff ?_)
                | ((with_reducible refine iwr_in ?_ ?_); · (simp only [inI]; omega))
                | ((with_reducible refine need_i ?_ ?_); · (first | omega | (simp <;> omega))))
              intro _u; clear _u
              refine acnd_t (by rw [nat_beq32, ← bel_anti, h4]; simp) ?_
              repeat ((intro _u; clear _u); first
                | (with_reducible refine acnd_tt ?_)
                | (with_reducible refine acnd_ff ?_)
                | ((with_reducible refine iwr_in ?_ ?_); · (simp only [inI]; omega))
                | ((with_reducible refine need_i ?_ ?_); · (first | omega | (simp <;> omega))))
              intro _u; clear _u
              refine ICall.pure h.n7.o7.hb (works17_c h.n7) rfl ?_
              repeat ((intro _u; clear _u); first
                | (with_reducible refine acnd_tt ?_)
                | (with_reducible refine acnd_ff ?_)
                | ((with_reducible refine iwr_in ?_ ?_); · (simp only [inI]; omega))
                | ((with_reducible refine need_i ?_ ?_); · (first | omega | (simp <;> omega))))
              intro _u; clear _u
              refine IRet.of ?_
              all_goals repeat' (first | exact True.intro | refine And.intro ?_ ?_ | (intro _u; clear _u) | (with_reducible refine fzEs_same ?_ ?_ ?_) | (with_reducible refine mtEs_same ?_ ?_))
              all_goals first | (with_reducible rfl) | omega | (simp; done) | (simp only [AV.namesL, AV.names, List.append_nil]; done) | (simp [AV.namesL]; done) | (simp [AV.namesL, AV.names]; done) | exact Or.inl (by decide) | exact Or.inr (by simp [AV.namesL, AV.names]) | skip
            · repeat ((intro _u; clear _u); first
                | (with_reducible refine acnd_tt ?_)
                | (with_reducible refine acnd_ff ?_)
                | ((with_reducible refine iwr_in ?_ ?_); · (simp only [inI]; omega))
                | ((with_reducible refine need_i ?_ ?_); · (first | omega | (simp <;> omega))))
              intro _u; clear _u
              refine acnd_t (by rw [nat_beq32, ← bel_anti, h4]; rfl) ?_
              repeat ((intro _u; clear _u); first
                | (with_reducible refine acnd_tt ?_)
                | (with_reducible refine acnd_ff ?_)
                | ((with_reducible refine iwr_in ?_ ?_); · (simp only [inI]; omega))
                | ((with_reducible refine need_i ?_ ?_); · (first | omega | (simp <;> omega))))
              intro _u; clear _u
              refine ICall.pure h.n7.o7.hb (works17_c h.n7) rfl ?_
              repeat ((intro _u; clear _u); first
                | (with_reducible refine acnd_tt ?_)
                | (with_reducible refine acnd_ff ?_)
                | ((with_reducible refine iwr_in ?_ ?_); · (simp only [inI]; omega))
                | ((with_reducible refine need_i ?_ ?_); · (first | omega | (simp <;> omega))))
              intro _u; clear _u
              refine IRet.of ?_
              all_goals repeat' (first | exact True.intro | refine And.intro ?_ ?_ | (intro _u; clear _u) | (with_reducible refine fzEs_same ?_ ?_ ?_) | (with_reducible refine mtEs_same ?_ ?_))
              all_goals first | (with_reducible rfl) | omega | (simp; done) | (simp only [AV.namesL, AV.names, List.append_nil]; done) | (simp [AV.namesL]; done) | (simp [AV.namesL, AV.names]; done) | exact Or.inl (by decide) | exact Or.inr (by simp [AV.namesL, AV.names]) | skip
          · repeat ((intro _u; clear _u); first
              | (with_reducible refine acnd_tt ?_)
              | (with_reducible refine acnd_ff ?_)
              | ((with_reducible refine iwr_in ?_ ?_); · (simp only [inI]; omega))
              | ((with_reducible refine need_i ?_ ?_); · (first | omega | (simp <;> omega))))
            intro _u; clear _u
            refine ICall.pure h.n6.o6.hb (below_v h.n6 _ _) rfl ?_
            repeat ((intro _u; clear _u); first
              | (with_reducible refine acnd_tt ?_)
              | (with_reducible refine acnd_ff ?_)
              | ((with_reducible refine iwr_in ?_ ?_); · (simp only [inI]; omega))
              | ((with_reducible refine need_i ?_ ?_); · (first | omega | (simp <;> omega))))
            intro _u; clear _u
            refine acnd_i (fun h4 => ?_) (fun h4 => ?_)
            all_goals repeat (first | simp only [decide_eq_true_eq] at h4 | simp only [decide_eq_false_iff_not] at h4 | simp only [beq_iff_eq] at h4 | simp only [bne_iff_ne] at h4 | simp only [beq_eq_false_iff_ne] at h4 | simp only [bne_eq_false_iff_eq] at h4 | simp only [Bool.not_eq_true'] at h4 | simp only [Bool.not_eq_false'] at h4 | simp only [Int.not_lt] at h4 | simp only [Int.not_le] at h4 | simp only [Bool.and_eq_true] at h4 | simp only [Bool.or_eq_true] at h4 | simp only [gt_iff_lt] at h4 | simp only [ge_iff_le] at h4 | simp only [ne_eq] at h4 | simp only [Decidable.not_not] at h4)
            · repeat ((intro _u; clear _u); first
                | (with_reducible refine acnd_tt ?_)
                | (with_reducible refine acnd_ff ?_)
                | ((with_reducible refine iwr_in ?_ ?_); · (simp only [inI]; omega))
                | ((with_reducible refine need_i ?_ ?_); · (first | omega | (simp <;> omega))))
              intro _u; clear _u
              refine ICall.pure h.n6.o6.hb (below_v h.n6 _ _) rfl ?_
              repeat ((intro _u; clear _u); first
                | (with_reducible refine acnd_tt ?_)
                | (with_reducible refine acnd_ff ?_)
                | ((with_reducible refine iwr_in ?_ ?_); · (simp only [inI]; omega))
                | ((with_reducible refine need_i ?_ ?_); · (first | omega | (simp <;> omega))))
              intro _u; clear _u
              refine acnd_t (by rw [nat_beq32, ← bel_anti, h4]; simp) ?_
              repeat ((intro _u; clear _u); first
                | (with_reducible refine acnd_tt ?_)
                | (with_reducible refine acnd_ff ?_)
                | ((with_reducible refine iwr_in ?_ ?_); · (simp only [inI]; omega))
                | ((with_reducible refine need_i ?_ ?_); · (first | omega | (simp <;> omega))))
              intro _u; clear _u
              refine ICall.pure h.n7.o7.hb (works17_c h.n7) rfl ?_
              repeat ((intro _u; clear _u); first
                | (with_reducible refine acnd_tt ?_)
                | (with_reducible refine acnd_ff ?_)
                | ((with_reducible refine iwr_in ?_ ?_); · (simp only [inI]; omega))
                | ((with_reducible refine need_i ?_ ?_); · (first | omega | (simp <;> omega))))
              intro _u; clear _u
              refine IRet.of ?_
              all_goals repeat' (first | exact True.intro | refine And.intro ?_ ?_ | (intro _u; clear _u) | (with_reducible refine fzEs_same ?_ ?_ ?_) | (with_reducible refine mtEs_same ?_ ?_))
              all_goals first | (with_reducible rfl) | omega | (simp; done) | (simp only [AV.namesL, AV.names, List.append_nil]; done) | (simp [AV.namesL]; done) | (simp [AV.namesL, AV.names]; done) | exact Or.inl (by decide) | exact Or.inr (by simp [AV.namesL, AV.names]) | skip
            · repeat ((intro _u; clear _u); first
                | (with_reducible refine acnd_tt ?_)
                | (with_reducible refine acnd_ff ?_)
                | ((with_reducible refine iwr_in ?_ ?_); · (simp only [inI]; omega))
                | ((with_reducible refine need_i ?_ ?_); · (first | omega | (simp <;> omega))))
              intro _u; clear _u
              refine acnd_t (by rw [nat_beq32, ← bel_anti, h4]; rfl) ?_
              repeat ((intro _u; clear _u); first
                | (with_reducible refine acnd_tt ?_)
                | (with_reducible refine acnd_ff ?_)
                | ((with_reducible refine iwr_in ?_ ?_); · (simp only [inI]; omega))
                | ((with_reducible refine need_i ?_ ?_); · (first | omega | (simp <;> omega))))
              intro _u; clear _u
              refine ICall.pure h.n7.o7.hb (works17_c h.n7) rfl ?_
              repeat ((intro _u; clear _u); first
                | (with_reducible refine acnd_tt ?_)
                | (with_reducible refine acnd_ff ?_)
                | ((with_reducible refine iwr_in ?_ ?_); · (simp only [inI]; omega))
                | ((with_reducible refine need_i ?_ ?_); · (first | omega | (simp <;> omega))))
              intro _u; clear _u
              refine IRet.of ?_
              all_goals repeat' (first | exact True.intro | refine And.intro ?_ ?_ | (intro _u; clear _u) | (with_reducible refine fzEs_same ?_ ?_ ?_) | (with_reducible refine mtEs_same ?_ ?_))
              all_goals first | (with_reducible rfl) | omega | (simp; done) | (simp only [AV.namesL, AV.names, List.append_nil]; done) | (simp [AV.namesL]; done) | (simp [AV.namesL, AV.names]; done) | exact Or.inl (by decide) | exact Or.inr (by simp [AV.namesL, AV.names]) | skip
        · repeat ((intro _u; clear _u); first
            | (with_reducible refine acnd_tt ?_)
            | (with_reducible refine acnd_ff ?_)
            | ((with_reducible refine iwr_in ?_ ?_); · (simp only [inI]; omega))
            | ((with_reducible refine need_i ?_ ?_); · (first | omega | (simp <;> omega))))
          intro _u; clear _u
          refine ICall.pure h.n6.o6.hb (below_v h.n6 _ _) rfl ?_
          repeat ((intro _u; clear _u); first
            | (with_reducible refine acnd_tt ?_)
            | (with_reducible refine acnd_ff ?_)
            | ((with_reducible refine iwr_in ?_ ?_); · (simp only [inI]; omega))
            | ((with_reducible refine need_i ?_ ?_); · (first | omega | (simp <;> omega))))
          intro _u; clear _u
          refine acnd_i (fun h4 => ?_) (fun h4 => ?_)
          all_goals repeat (first | simp only [decide_eq_true_eq] at h4 | simp only [decide_eq_false_iff_not] at h4 | simp only [beq_iff_eq] at h4 | simp only [bne_iff_ne] at h4 | simp only [beq_eq_false_iff_ne] at h4 | simp only [bne_eq_false_iff_eq] at h4 | simp only [Bool.not_eq_true'] at h4 | simp only [Bool.not_eq_false'] at h4 | simp only [Int.not_lt] at h4 | simp only [Int.not_le] at h4 | simp only [Bool.and_eq_true] at h4 | simp only [Bool.or_eq_true] at h4 | simp only [gt_iff_lt] at h4 | simp only [ge_iff_le] at h4 | simp only [ne_eq] at h4 | simp only [Decidable.not_not] at h4)
          · repeat ((intro _u; clear _u); first
              | (with_reducible refine acnd_tt ?_)
              | (with_reducible refine acnd_ff ?_)
              | ((with_reducible refine iwr_in ?_ ?_); · (simp only [inI]; omega))
              | ((with_reducible refine need_i ?_ ?_); · (first | omega | (simp <;> omega))))
            intro _u; clear _u
            refine ICall.pure h.n6.o6.hb (below_v h.n6 _ _) rfl ?_
            repeat ((intro _u; clear _u); first
              | (with_reducible refine acnd_tt ?_)
              | (with_reducible refine acnd_ff ?_)
              | ((with_reducible refine iwr_in ?_ ?_); · (simp only [inI]; omega))
              | ((with_reducible refine need_i ?_ ?_); · (first | omega | (simp <;> omega))))
            intro _u; clear _u
            refine acnd_t (by rw [nat_beq32, ← bel_anti, h4]; simp) ?_
            repeat ((intro _u; clear _u); first
              | (with_reducible refine acnd_tt ?_)
              | (with_reducible refine acnd_ff ?_)
              | ((with_reducible refine iwr_in ?_ ?_); · (simp only [inI]; omega))
              | ((with_reducible refine need_i ?_ ?_); · (first | omega | (simp <;> omega))))
            intro _u; clear _u
            refine ICall.pure h.n7.o7.hb (works17_c h.n7) rfl ?_
            repeat ((intro _u; clear _u); first
              | (with_reducible refine acnd_tt ?_)
              | (with_reducible refine acnd_ff ?_)
              | ((with_reducible refine iwr_in ?_ ?_); · (simp only [inI]; omega))
              | ((with_reducible refine need_i ?_ ?_); · (first | omega | (simp <;> omega))))
            intro _u; clear _u
            refine IRet.of ?_
            all_goals repeat' (first | exact True.intro | refine And.intro ?_ ?_ | (intro _u; clear _u) | (with_reducible refine fzEs_same ?_ ?_ ?_) | (with_reducible refine mtEs_same ?_ ?_))
            all_goals first | (with_reducible rfl) | omega | (simp; done) | (simp only [AV.namesL, AV.names, List.append_nil]; done) | (simp [AV.namesL]; done) | (simp [AV.namesL, AV.names]; done) | exact Or.inl (by decide) | exact Or.inr (by simp [AV.namesL, AV.names]) | skip
          · repeat ((intro _u; clear _u); first
              | (with_reducible refine acnd_tt ?_)
              | (with_reducible refine acnd_ff ?_)
              | ((with_reducible refine iwr_in ?_ ?_); · (simp only [inI]; omega))
              | ((with_reducible refine need_i ?_ ?_); · (first | omega | (simp <;> omega))))
            intro _u; clear _u
            refine acnd_t (by rw [nat_beq32, ← bel_anti, h4]; rfl) ?_
            repeat ((intro _u; clear _u); first
              | (with_reducible refine acnd_tt ?_)
              | (with_reducible refine acnd_ff ?_)
              | ((with_reducible refine iwr_in ?_ ?_); · (simp only [inI]; omega))
              | ((with_reducible refine need_i ?_ ?_); · (first | omega | (simp <;> omega))))
            intro _u; clear _u
            refine ICall.pure h.n7.o7.hb (works17_c h.n7) rfl ?_
            repeat ((intro _u; clear _u); first
              | (with_reducible refine acnd_tt ?_)
              | (with_reducible refine acnd_ff ?_)
              | ((with_reducible refine iwr_in ?_ ?_); · (simp only [inI]; omega))
              | ((with_reducible refine need_i ?_ ?_); · (first | omega | (simp <;> omega))))
            intro _u; clear _u
            refine IRet.of ?_
            all_goals repeat' (first | exact True.intro | refine And.intro ?_ ?_ | (intro _u; clear _u) | (with_reducible refine fzEs_same ?_ ?_ ?_) | (with_reducible refine mtEs_same ?_ ?_))
            all_goals first | (with_reducible rfl) | omega | (simp; done) | (simp only [AV.namesL, AV.names, List.append_nil]; done) | (simp [AV.namesL]; done) | (simp [AV.namesL, AV.names]; done) | exact Or.inl (by decide) | exact Or.inr (by simp [AV.namesL, AV.names]) | skip
theorem and32 (x y : BitVec 32) : bit2 .and .u32 (x.toNat : Int) (y.toNat : Int) = ((x &&& y).toNat : Int) := by
  have e : bit2 .and .u32 (x.toNat : Int) (y.toNat : Int) = IntKind.wrap .u32 ((BitVec.ofInt 32 (x.toNat : Int) &&& BitVec.ofInt 32 (y.toNat : Int)).toNat : Int) := rfl
  rw [e, ofInt_toNat32, ofInt_toNat32]
  generalize x &&& y = v
  have := v.isLt
  exact wr_in (k := .u32) ⟨by omega, by omega⟩

theorem bit_eq (v : BitVec 32) (i : Nat) (hi : i < 32) : (bit2 .and .u32 (shrI .u32 (v.toNat : Int) (i : Int)) 1 == 1) = v.getLsbD i := by
  have e1 : shrI .u32 (v.toNat : Int) (i : Int) = ((v >>> i).toNat : Int) := by
    have h32 : IntKind.bits .u32 = 32 := rfl
    have hm : min (i : Int).toNat 32 = i := by simp; omega
    rw [shrI, h32, hm, BitVec.toNat_ushiftRight, Nat.shiftRight_eq_div_pow]
    rw [show ((2 : Int) ^ i) = ((2 ^ i : Nat) : Int) by simp]
    rw [Int.fdiv_eq_ediv_of_nonneg _ (Int.natCast_nonneg _)]
    simp
  rw [e1, show (1 : Int) = ((1#32).toNat : Int) from rfl, and32, nat_beq32]
  rw [Bool.eq_iff_iff, beq_iff_eq]
  constructor
  · intro h
    have := congrArg (·.getLsbD 0) h
    simpa using this
  · intro h
    ext j hj
    by_cases hj0 : j = 0
    · subst hj0; simp [h]
    · simp [BitVec.getElem_one, hj0]

theorem bit_v {R : Env} (h : N5 R) (v : BitVec 32) (i : Nat) (hi : i < 32) : R.Pc 5 [.int .u32 v.toNat, .int .i64 i] (.bool (v.getLsbD i)) := by
  have := bit_c h (v.toNat : Int) (i : Int) (by omega)
  rwa [bit_eq v i hi] at this

theorem orL_bit (l : List (BitVec 32)) (i : Nat) : ∀ s : BitVec 32, (orL l s).getLsbD i = (s.getLsbD i || l.any (·.getLsbD i)) := by
  induction l with
  | nil => intro s; simp [orL]
  | cons x l ih =>
    intro s
    have := ih (s ||| x)
    simp only [orL, List.foldl_cons, List.any_cons] at this ⊢
    rw [this, BitVec.getLsbD_or, Bool.or_assoc]

def belN (x y : BitVec 32) (n : Nat) : Bool := (List.range n).all fun i => !x.getLsbD i || y.getLsbD i
theorem belN_succ (x y : BitVec 32) (n : Nat) : belN x y (n + 1) = (belN x y n && (!x.getLsbD n || y.getLsbD n)) := by
  simp [belN, List.range_succ]
theorem belN_all (x y : BitVec 32) : belN x y 32 = bel x y := by
  rw [Bool.eq_iff_iff, bel_iff]
  simp only [belN, List.all_eq_true, List.mem_range]
  constructor
  · intro h i hi h1
    have := h i hi
    rw [h1] at this
    simpa using this
  · intro h i hi
    cases hx : x.getLsbD i with
    | false => rfl
    | true => simp [h i hi hx]

theorem joins_c {R : Env} (h : N3 R) (l : List (BitVec 32)) (a b : BitVec 32) : R.Pc 3 [.isl 1 (vs32 l), .int .u32 a.toNat, .int .u32 b.toNat] (.bool true) :=
  h.o3.enter 200 rfl fun X bb hfit hp => by
    repeat ((intro _u; clear _u); first
      | (with_reducible refine acnd_tt ?_)
      | (with_reducible refine acnd_ff ?_)
      | ((with_reducible refine iwr_in ?_ ?_); · (simp only [inI]; omega))
      | ((with_reducible refine need_i ?_ ?_); · (first | omega | (simp <;> omega))))
    intro _u; clear _u
    refine asub_eq (by exact (show (vs32 l).take (min ((vs32 l).length : Int) 8).toNat = vs32 (l.take 8) from by rw [show (8 : Int) = ((8 : Nat) : Int) from rfl, take_min]; simp [vs32, List.map_take])) ?_
    have hl8 : (l.take 8).length ≤ 8 := by simp; omega
    generalize l.take 8 = l at hl8 ⊢
    repeat ((intro _u; clear _u); first
      | (with_reducible refine acnd_tt ?_)
      | (with_reducible refine acnd_ff ?_)
      | ((with_reducible refine iwr_in ?_ ?_); · (simp only [inI]; omega))
      | ((with_reducible refine need_i ?_ ?_); · (first | omega | (simp <;> omega))))
    intro _u; clear _u
    refine ICall.pure h.n4.o4.hb (join_s h.n4 l (by omega)) rfl ?_
    repeat ((intro _u; clear _u); first
      | (with_reducible refine acnd_tt ?_)
      | (with_reducible refine acnd_ff ?_)
      | ((with_reducible refine iwr_in ?_ ?_); · (simp only [inI]; omega))
      | ((with_reducible refine need_i ?_ ?_); · (first | omega | (simp <;> omega))))
    intro _u; clear _u
    refine ILoop.inv 100 (fun i : Nat => i ≤ 32) (fun i => ⟨[(0, .isl 1 (vs32 l)), (1, .int .u32 a.toNat), (2, .int .u32 b.toNat), (7, .int .u32 (orL l 0).toNat), (8, .bool (belN a b i)), (20, .int .i64 i)], [], 0⟩) (fun i => 32 - i) (0) ?_ ⟨hp, ?_, ?_⟩ ?_
    · exact Nat.zero_le _
    · all_goals repeat' (first | exact True.intro | refine And.intro ?_ ?_ | (intro _u; clear _u) | (with_reducible refine fzEs_same ?_ ?_ ?_) | (with_reducible refine mtEs_same ?_ ?_))
      all_goals first | (with_reducible rfl) | omega | (simp; done) | (simp only [AV.namesL, AV.names, List.append_nil]; done) | (simp [AV.namesL]; done) | (simp [AV.namesL, AV.names]; done) | exact Or.inl (by decide) | exact Or.inr (by simp [AV.namesL, AV.names]) | skip
      rfl
    · all_goals repeat' (first | exact True.intro | refine And.intro ?_ ?_ | (intro _u; clear _u) | (with_reducible refine fzEs_same ?_ ?_ ?_) | (with_reducible refine mtEs_same ?_ ?_))
      all_goals first | (with_reducible rfl) | omega | (simp; done) | (simp only [AV.namesL, AV.names, List.append_nil]; done) | (simp [AV.namesL]; done) | (simp [AV.namesL, AV.names]; done) | exact Or.inl (by decide) | exact Or.inr (by simp [AV.namesL, AV.names]) | skip
    · intro i hi
      dsimp only
      repeat ((intro _u; clear _u); first
        | (with_reducible refine acnd_tt ?_)
        | (with_reducible refine acnd_ff ?_)
        | ((with_reducible refine iwr_in ?_ ?_); · (simp only [inI]; omega))
        | ((with_reducible refine need_i ?_ ?_); · (first | omega | (simp <;> omega))))
      intro _u; clear _u
      refine acnd_i (fun h1 => ?_) (fun h1 => ?_)
      all_goals repeat (first | simp only [decide_eq_true_eq] at h1 | simp only [decide_eq_false_iff_not] at h1 | simp only [beq_iff_eq] at h1 | simp only [bne_iff_ne] at h1 | simp only [beq_eq_false_iff_ne] at h1 | simp only [bne_eq_false_iff_eq] at h1 | simp only [Bool.not_eq_true'] at h1 | simp only [Bool.not_eq_false'] at h1 | simp only [Int.not_lt] at h1 | simp only [Int.not_le] at h1 | simp only [Bool.and_eq_true] at h1 | simp only [Bool.or_eq_true] at h1 | simp only [gt_iff_lt] at h1 | simp only [ge_iff_le] at h1 | simp only [ne_eq] at h1 | simp only [Decidable.not_not] at h1)
      · repeat ((intro _u; clear _u); first
          | (with_reducible refine acnd_tt ?_)
          | (with_reducible refine acnd_ff ?_)
          | ((with_reducible refine iwr_in ?_ ?_); · (simp only [inI]; omega))
          | ((with_reducible refine need_i ?_ ?_); · (first | omega | (simp <;> omega))))
        intro _u; clear _u
        refine ILoop.inv 100 (fun k : Nat => k ≤ l.length) (fun k => ⟨[(0, .isl 1 (vs32 l)), (1, .int .u32 a.toNat), (2, .int .u32 b.toNat), (7, .int .u32 (orL l 0).toNat), (8, .bool (belN a b i)), (9, .int .i64 i), (10, .bool ((l.take k).any (·.getLsbD i))), (20, .int .i64 i), (23, .isl 1 (vs32 l)), (24, .int .i64 l.length), (25, .int .i64 k)], [], 0⟩) (fun k => l.length - k) (0) ?_ ⟨hp, ?_, ?_⟩ ?_
        · exact Nat.zero_le _
        · all_goals repeat' (first | exact True.intro | refine And.intro ?_ ?_ | (intro _u; clear _u) | (with_reducible refine fzEs_same ?_ ?_ ?_) | (with_reducible refine mtEs_same ?_ ?_))
          all_goals first | (with_reducible rfl) | omega | (simp; done) | (simp only [AV.namesL, AV.names, List.append_nil]; done) | (simp [AV.namesL]; done) | (simp [AV.namesL, AV.names]; done) | exact Or.inl (by decide) | exact Or.inr (by simp [AV.namesL, AV.names]) | skip
        · all_goals repeat' (first | exact True.intro | refine And.intro ?_ ?_ | (intro _u; clear _u) | (with_reducible refine fzEs_same ?_ ?_ ?_) | (with_reducible refine mtEs_same ?_ ?_))
          all_goals first | (with_reducible rfl) | omega | (simp; done) | (simp only [AV.namesL, AV.names, List.append_nil]; done) | (simp [AV.namesL]; done) | (simp [AV.namesL, AV.names]; done) | exact Or.inl (by decide) | exact Or.inr (by simp [AV.namesL, AV.names]) | skip
        · intro k hk
          dsimp only
          repeat ((intro _u; clear _u); first
            | (with_reducible refine acnd_tt ?_)
            | (with_reducible refine acnd_ff ?_)
            | ((with_reducible refine iwr_in ?_ ?_); · (simp only [inI]; omega))
            | ((with_reducible refine need_i ?_ ?_); · (first | omega | (simp <;> omega))))
          intro _u; clear _u
          refine acnd_i (fun h2 => ?_) (fun h2 => ?_)
          all_goals repeat (first | simp only [decide_eq_true_eq] at h2 | simp only [decide_eq_false_iff_not] at h2 | simp only [beq_iff_eq] at h2 | simp only [bne_iff_ne] at h2 | simp only [beq_eq_false_iff_ne] at h2 | simp only [bne_eq_false_iff_eq] at h2 | simp only [Bool.not_eq_true'] at h2 | simp only [Bool.not_eq_false'] at h2 | simp only [Int.not_lt] at h2 | simp only [Int.not_le] at h2 | simp only [Bool.and_eq_true] at h2 | simp only [Bool.or_eq_true] at h2 | simp only [gt_iff_lt] at h2 | simp only [ge_iff_le] at h2 | simp only [ne_eq] at h2 | simp only [Decidable.not_not] at h2)
          · obtain ⟨x, hx⟩ : ∃ x, l[k]? = some x := ⟨_, List.getElem?_eq_getElem (by first | omega | (simp <;> omega))⟩
            repeat ((intro _u; clear _u); first
              | (with_reducible refine acnd_tt ?_)
              | (with_reducible refine acnd_ff ?_)
              | ((with_reducible refine iwr_in ?_ ?_); · (simp only [inI]; omega))
              | ((with_reducible refine need_i ?_ ?_); · (first | omega | (simp <;> omega))))
            intro _u; clear _u
            refine eget_map hx ?_
            repeat ((intro _u; clear _u); first
              | (with_reducible refine acnd_tt ?_)
              | (with_reducible refine acnd_ff ?_)
              | ((with_reducible refine iwr_in ?_ ?_); · (simp only [inI]; omega))
              | ((with_reducible refine need_i ?_ ?_); · (first | omega | (simp <;> omega))))
            intro _u; clear _u
            refine acnd_i (fun h3 => ?_) (fun h3 => ?_)
            all_goals repeat (first | simp only [decide_eq_true_eq] at h3 | simp only [decide_eq_false_iff_not] at h3 | simp only [beq_iff_eq] at h3 | simp only [bne_iff_ne] at h3 | simp only [beq_eq_false_iff_ne] at h3 | simp only [bne_eq_false_iff_eq] at h3 | simp only [Bool.not_eq_true'] at h3 | simp only [Bool.not_eq_false'] at h3 | simp only [Int.not_lt] at h3 | simp only [Int.not_le] at h3 | simp only [Bool.and_eq_true] at h3 | simp only [Bool.or_eq_true] at h3 | simp only [gt_iff_lt] at h3 | simp only [ge_iff_le] at h3 | simp only [ne_eq] at h3 | simp only [Decidable.not_not] at h3)
            · repeat ((intro _u; clear _u); first
                | (with_reducible refine acnd_tt ?_)
                | (with_reducible refine acnd_ff ?_)
                | ((with_reducible refine iwr_in ?_ ?_); · (simp only [inI]; omega))
                | ((with_reducible refine need_i ?_ ?_); · (first | omega | (simp <;> omega))))
              intro _u; clear _u
              refine ⟨k + 1, ?_, ?_, hp, ?_, ?_⟩
              · omega
              · omega
              · all_goals repeat' (first | exact True.intro | refine And.intro ?_ ?_ | (intro _u; clear _u) | (with_reducible refine fzEs_same ?_ ?_ ?_) | (with_reducible refine mtEs_same ?_ ?_))
                all_goals first | (with_reducible rfl) | omega | (simp; done) | (simp only [AV.namesL, AV.names, List.append_nil]; done) | (simp [AV.namesL]; done) | (simp [AV.namesL, AV.names]; done) | exact Or.inl (by decide) | exact Or.inr (by simp [AV.namesL, AV.names]) | skip
                rw [List.take_add_one, hx, List.any_append, h3]; simp
              · all_goals repeat' (first | exact True.intro | refine And.intro ?_ ?_ | (intro _u; clear _u) | (with_reducible refine fzEs_same ?_ ?_ ?_) | (with_reducible refine mtEs_same ?_ ?_))
                all_goals first | (with_reducible rfl) | omega | (simp; done) | (simp only [AV.namesL, AV.names, List.append_nil]; done) | (simp [AV.namesL]; done) | (simp [AV.namesL, AV.names]; done) | exact Or.inl (by decide) | exact Or.inr (by simp [AV.namesL, AV.names]) | skip
            · repeat ((intro _u; clear _u); first
                | (with_reducible refine acnd_tt ?_)
                | (with_reducible refine acnd_ff ?_)
                | ((with_reducible refine iwr_in ?_ ?_); · (simp only [inI]; omega))
                | ((with_reducible refine need_i ?_ ?_); · (first | omega | (simp <;> omega))))
              intro _u; clear _u
              refine ICall.pure h.n5.o5.hb (bit_v h.n5 x i (by omega)) rfl ?_
              repeat ((intro _u; clear _u); first
                | (with_reducible refine acnd_tt ?_)
                | (with_reducible refine acnd_ff ?_)
                | ((with_reducible refine iwr_in ?_ ?_); · (simp only [inI]; omega))
                | ((with_reducible refine need_i ?_ ?_); · (first | omega | (simp <;> omega))))
              intro _u; clear _u
              refine ⟨k + 1, ?_, ?_, hp, ?_, ?_⟩
              · omega
              · omega
              · all_goals repeat' (first | exact True.intro | refine And.intro ?_ ?_ | (intro _u; clear _u) | (with_reducible refine fzEs_same ?_ ?_ ?_) | (with_reducible refine mtEs_same ?_ ?_))
                all_goals first | (with_reducible rfl) | omega | (simp; done) | (simp only [AV.namesL, AV.names, List.append_nil]; done) | (simp [AV.namesL]; done) | (simp [AV.namesL, AV.names]; done) | exact Or.inl (by decide) | exact Or.inr (by simp [AV.namesL, AV.names]) | skip
                rw [List.take_add_one, hx, List.any_append, h3]; simp
              · all_goals repeat' (first | exact True.intro | refine And.intro ?_ ?_ | (intro _u; clear _u) | (with_reducible refine fzEs_same ?_ ?_ ?_) | (with_reducible refine mtEs_same ?_ ?_))
                all_goals first | (with_reducible rfl) | omega | (simp; done) | (simp only [AV.namesL, AV.names, List.append_nil]; done) | (simp [AV.namesL]; done) | (simp [AV.namesL, AV.names]; done) | exact Or.inl (by decide) | exact Or.inr (by simp [AV.namesL, AV.names]) | skip
          · have e : (l.take k) = l := List.take_of_length_le (by omega)
            rw [e]
            repeat ((intro _u; clear _u); first
              | (with_reducible refine acnd_tt ?_)
              | (with_reducible refine acnd_ff ?_)
              | ((with_reducible refine iwr_in ?_ ?_); · (simp only [inI]; omega))
              | ((with_reducible refine need_i ?_ ?_); · (first | omega | (simp <;> omega))))
            intro _u; clear _u
            refine ICall.pure h.n5.o5.hb (bit_v h.n5 (orL l 0) i (by omega)) rfl ?_
            repeat ((intro _u; clear _u); first
              | (with_reducible refine acnd_tt ?_)
              | (with_reducible refine acnd_ff ?_)
              | ((with_reducible refine iwr_in ?_ ?_); · (simp only [inI]; omega))
              | ((with_reducible refine need_i ?_ ?_); · (first | omega | (simp <;> omega))))
            intro _u; clear _u
            refine acnd_f (by rw [orL_bit]; simp) ?_
            repeat ((intro _u; clear _u); first
              | (with_reducible refine acnd_tt ?_)
              | (with_reducible refine acnd_ff ?_)
              | ((with_reducible refine iwr_in ?_ ?_); · (simp only [inI]; omega))
              | ((with_reducible refine need_i ?_ ?_); · (first | omega | (simp <;> omega))))
            intro _u; clear _u
            refine acnd_i (fun h4 => ?_) (fun h4 => ?_)
            all_goals repeat (first | simp only [decide_eq_true_eq] at h4 | simp only [decide_eq_false_iff_not] at h4 | simp only [beq_iff_eq] at h4 | simp only [bne_iff_ne] at h4 | simp only [beq_eq_false_iff_ne] at h4 | simp only [bne_eq_false_iff_eq] at h4 | simp only [Bool.not_eq_true'] at h4 | simp only [Bool.not_eq_false'] at h4 | simp only [Int.not_lt] at h4 | simp only [Int.not_le] at h4 | simp only [Bool.and_eq_true] at h4 | simp only [Bool.or_eq_true] at h4 | simp only [gt_iff_lt] at h4 | simp only [ge_iff_le] at h4 | simp only [ne_eq] at h4 | simp only [Decidable.not_not] at h4)
            · repeat ((intro _u; clear _u); first
                | (with_reducible refine acnd_tt ?_)
                | (with_reducible refine acnd_ff ?_)
                | ((with_reducible refine iwr_in ?_ ?_); · (simp only [inI]; omega))
                | ((with_reducible refine need_i ?_ ?_); · (first | omega | (simp <;> omega))))
              intro _u; clear _u
              refine ICall.pure h.n5.o5.hb (bit_v h.n5 a i (by omega)) rfl ?_
              repeat ((intro _u; clear _u); first
                | (with_reducible refine acnd_tt ?_)
                | (with_reducible refine acnd_ff ?_)
                | ((with_reducible refine iwr_in ?_ ?_); · (simp only [inI]; omega))
                | ((with_reducible refine need_i ?_ ?_); · (first | omega | (simp <;> omega))))
              intro _u; clear _u
              refine acnd_i (fun h5 => ?_) (fun h5 => ?_)
              all_goals repeat (first | simp only [decide_eq_true_eq] at h5 | simp only [decide_eq_false_iff_not] at h5 | simp only [beq_iff_eq] at h5 | simp only [bne_iff_ne] at h5 | simp only [beq_eq_false_iff_ne] at h5 | simp only [bne_eq_false_iff_eq] at h5 | simp only [Bool.not_eq_true'] at h5 | simp only [Bool.not_eq_false'] at h5 | simp only [Int.not_lt] at h5 | simp only [Int.not_le] at h5 | simp only [Bool.and_eq_true] at h5 | simp only [Bool.or_eq_true] at h5 | simp only [gt_iff_lt] at h5 | simp only [ge_iff_le] at h5 | simp only [ne_eq] at h5 | simp only [Decidable.not_not] at h5)
              · repeat ((intro _u; clear _u); first
                  | (with_reducible refine acnd_tt ?_)
                  | (with_reducible refine acnd_ff ?_)
                  | ((with_reducible refine iwr_in ?_ ?_); · (simp only [inI]; omega))
                  | ((with_reducible refine need_i ?_ ?_); · (first | omega | (simp <;> omega))))
                intro _u; clear _u
                refine ⟨i + 1, ?_, ?_, hp, ?_, ?_⟩
                · omega
                · omega
                · all_goals repeat' (first | exact True.intro | refine And.intro ?_ ?_ | (intro _u; clear _u) | (with_reducible refine fzEs_same ?_ ?_ ?_) | (with_reducible refine mtEs_same ?_ ?_))
                  all_goals first | (with_reducible rfl) | omega | (simp; done) | (simp only [AV.namesL, AV.names, List.append_nil]; done) | (simp [AV.namesL]; done) | (simp [AV.namesL, AV.names]; done) | exact Or.inl (by decide) | exact Or.inr (by simp [AV.namesL, AV.names]) | skip
                  rw [belN_succ, h4, h5]; rfl
                · all_goals repeat' (first | exact True.intro | refine And.intro ?_ ?_ | (intro _u; clear _u) | (with_reducible refine fzEs_same ?_ ?_ ?_) | (with_reducible refine mtEs_same ?_ ?_))
                  all_goals first | (with_reducible rfl) | omega | (simp; done) | (simp only [AV.namesL, AV.names, List.append_nil]; done) | (simp [AV.namesL]; done) | (simp [AV.namesL, AV.names]; done) | exact Or.inl (by decide) | exact Or.inr (by simp [AV.namesL, AV.names]) | skip
              · repeat ((intro _u; clear _u); first
                  | (with_reducible refine acnd_tt ?_)
                  | (with_reducible refine acnd_ff ?_)
                  | ((with_reducible refine iwr_in ?_ ?_); · (simp only [inI]; omega))
                  | ((with_reducible refine need_i ?_ ?_); · (first | omega | (simp <;> omega))))
                intro _u; clear _u
                refine ICall.pure h.n5.o5.hb (bit_v h.n5 b i (by omega)) rfl ?_
                repeat ((intro _u; clear _u); first
                  | (with_reducible refine acnd_tt ?_)
                  | (with_reducible refine acnd_ff ?_)
                  | ((with_reducible refine iwr_in ?_ ?_); · (simp only [inI]; omega))
                  | ((with_reducible refine need_i ?_ ?_); · (first | omega | (simp <;> omega))))
                intro _u; clear _u
                refine ⟨i + 1, ?_, ?_, hp, ?_, ?_⟩
                · omega
                · omega
                · all_goals repeat' (first | exact True.intro | refine And.intro ?_ ?_ | (intro _u; clear _u) | (with_reducible refine fzEs_same ?_ ?_ ?_) | (with_reducible refine mtEs_same ?_ ?_))
                  all_goals first | (with_reducible rfl) | omega | (simp; done) | (simp only [AV.namesL, AV.names, List.append_nil]; done) | (simp [AV.namesL]; done) | (simp [AV.namesL, AV.names]; done) | exact Or.inl (by decide) | exact Or.inr (by simp [AV.namesL, AV.names]) | skip
                  rw [belN_succ, h4, h5]; simp
                · all_goals repeat' (first | exact True.intro | refine And.intro ?_ ?_ | (intro _u; clear _u) | (with_reducible refine fzEs_same ?_ ?_ ?_) | (with_reducible refine mtEs_same ?_ ?_))
                  all_goals first | (with_reducible rfl) | omega | (simp; done) | (simp only [AV.namesL, AV.names, List.append_nil]; done) | (simp [AV.namesL]; done) | (simp [AV.namesL, AV.names]; done) | exact Or.inl (by decide) | exact Or.inr (by simp [AV.namesL, AV.names]) | skip
            · repeat ((intro _u; clear _u); first
                | (with_reducible refine acnd_tt ?_)
                | (with_reducible refine acnd_ff ?_)
                | ((with_reducible refine iwr_in ?_ ?_); · (simp only [inI]; omega))
                | ((with_reducible refine need_i ?_ ?_); · (first | omega | (simp <;> omega))))
              intro _u; clear _u
              refine ⟨i + 1, ?_, ?_, hp, ?_, ?_⟩
              · omega
              · omega
              · all_goals repeat' (first | exact True.intro | refine And.intro ?_ ?_ | (intro _u; clear _u) | (with_reducible refine fzEs_same ?_ ?_ ?_) | (with_reducible refine mtEs_same ?_ ?_))
                all_goals first | (with_reducible rfl) | omega | (simp; done) | (simp only [AV.namesL, AV.names, List.append_nil]; done) | (simp [AV.namesL]; done) | (simp [AV.namesL, AV.names]; done) | exact Or.inl (by decide) | exact Or.inr (by simp [AV.namesL, AV.names]) | skip
                rw [belN_succ, h4]; rfl
              · all_goals repeat' (first | exact True.intro | refine And.intro ?_ ?_ | (intro _u; clear _u) | (with_reducible refine fzEs_same ?_ ?_ ?_) | (with_reducible refine mtEs_same ?_ ?_))
                all_goals first | (with_reducible rfl) | omega | (simp; done) | (simp only [AV.namesL, AV.names, List.append_nil]; done) | (simp [AV.namesL]; done) | (simp [AV.namesL, AV.names]; done) | exact Or.inl (by decide) | exact Or.inr (by simp [AV.namesL, AV.names]) | skip
      · obtain rfl : i = 32 := by omega
        repeat ((intro _u; clear _u); first
          | (with_reducible refine acnd_tt ?_)
          | (with_reducible refine acnd_ff ?_)
          | ((with_reducible refine iwr_in ?_ ?_); · (simp only [inI]; omega))
          | ((with_reducible refine need_i ?_ ?_); · (first | omega | (simp <;> omega))))
        intro _u; clear _u
        refine ICall.pure h.n6.o6.hb (below_v h.n6 _ _) rfl ?_
        repeat ((intro _u; clear _u); first
          | (with_reducible refine acnd_tt ?_)
          | (with_reducible refine acnd_ff ?_)
          | ((with_reducible refine iwr_in ?_ ?_); · (simp only [inI]; omega))
          | ((with_reducible refine need_i ?_ ?_); · (first | omega | (simp <;> omega))))
        intro _u; clear _u
        refine acnd_t (by rw [belN_all]; simp) ?_
        repeat ((intro _u; clear _u); first
          | (with_reducible refine acnd_tt ?_)
          | (with_reducible refine acnd_ff ?_)
          | ((with_reducible refine iwr_in ?_ ?_); · (simp only [inI]; omega))
          | ((with_reducible refine need_i ?_ ?_); · (first | omega | (simp <;> omega))))
        intro _u; clear _u
        refine ICall.pure h.n4.o4.hb (join_n h.n4) rfl ?_
        repeat ((intro _u; clear _u); first
          | (with_reducible refine acnd_tt ?_)
          | (with_reducible refine acnd_ff ?_)
          | ((with_reducible refine iwr_in ?_ ?_); · (simp only [inI]; omega))
          | ((with_reducible refine need_i ?_ ?_); · (first | omega | (simp <;> omega))))
        intro _u; clear _u
        refine acnd_t (by rfl) ?_
        repeat ((intro _u; clear _u); first
          | (with_reducible refine acnd_tt ?_)
          | (with_reducible refine acnd_ff ?_)
          | ((with_reducible refine iwr_in ?_ ?_); · (simp only [inI]; omega))
          | ((with_reducible refine need_i ?_ ?_); · (first | omega | (simp <;> omega))))
        intro _u; clear _u
        refine ICall.pure h.n7.o7.hb (works17_c h.n7) rfl ?_
        repeat ((intro _u; clear _u); first
          | (with_reducible refine acnd_tt ?_)
          | (with_reducible refine acnd_ff ?_)
          | ((with_reducible refine iwr_in ?_ ?_); · (simp only [inI]; omega))
          | ((with_reducible refine need_i ?_ ?_); · (first | omega | (simp <;> omega))))
        intro _u; clear _u
        refine IRet.of ?_
        all_goals repeat' (first | exact True.intro | refine And.intro ?_ ?_ | (intro _u; clear _u) | (with_reducible refine fzEs_same ?_ ?_ ?_) | (with_reducible refine mtEs_same ?_ ?_))
        all_goals first | (with_reducible rfl) | omega | (simp; done) | (simp only [AV.namesL, AV.names, List.append_nil]; done) | (simp [AV.namesL]; done) | (simp [AV.namesL, AV.names]; done) | exact Or.inl (by decide) | exact Or.inr (by simp [AV.namesL, AV.names]) | skip
end Go.UM
