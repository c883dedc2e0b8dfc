/- Of the reckoning machine, and what is proved with it: texts joined by program. -/
import Derived.Test.YtfkolnaidjknoaaK2
set_option linter.all false

/- The resolved code of package film, function by function; numbers are those of the register, the same for all programs. -/

namespace Go.UM
open Go.AM
/-- umbra.film.alike[[3]int][[3]int] -/
def c146 : IFn := { np := 2, rs := [.t 4], body :=
 (.seq
  (.ops [⟨some 4, none, .mv (.k (.bool false))⟩])
  (.seq
   (.seq
    (.ops [⟨some 6, none, .mv (.t 0)⟩,
      ⟨some 7, none, .lenS (.t 6)⟩,
      ⟨some 8, none, .mv (.t 1)⟩,
      ⟨some 9, none, .lenS (.t 8)⟩,
      ⟨some 10, none, .bin .neq (.t 7) (.t 9)⟩])
    (.keep [0, 1, 10]
     (.cond (.t 10)
      (.seq
       (.ops [⟨some 4, none, .mv (.k (.bool false))⟩])
       .ret)
      .skip)))
   (.keep [0, 1]
    (.seq
     (.seq
      (.ops [⟨some 11, none, .mv (.t 0)⟩,
        ⟨some 12, none, .lenS (.t 11)⟩,
        ⟨some 13, none, .mv (.k (.int .i64 0))⟩])
      (.keep [0, 1, 12, 13]
       (.block 0
        (.loop
         (.seq
          (.ops [⟨some 14, none, .bin .lss (.t 13) (.t 12)⟩])
          (.seq
           (.cond (.t 14)
            .skip
            (.exit 0))
           (.keep [0, 1, 12, 13]
            (.seq
             (.block 1
              (.seq
               (.ops [⟨some 15, none, .mv (.t 13)⟩,
                 ⟨some 5, none, .mv (.t 15)⟩])
               (.seq
                (.draw [0, 0, 3, 7, 0, 0, 48, 112, 255] [[0], [5], [16, 17], [18], [1], [5], [20, 21], [22], [19, 23]] [⟨some 16, none, .mv (.t 0)⟩,
                  ⟨some 17, none, .mv (.t 5)⟩,
                  ⟨some 18, none, .idxS 3 (.t 16) (.t 17)⟩,
                  ⟨some 19, none, .load true 3 (.t 18)⟩,
                  ⟨some 20, none, .mv (.t 1)⟩,
                  ⟨some 21, none, .mv (.t 5)⟩,
                  ⟨some 22, none, .idxS 3 (.t 20) (.t 21)⟩,
                  ⟨some 23, none, .load true 3 (.t 22)⟩,
                  ⟨some 24, none, .eqa true [.i, .i, .i] (.t 19) (.t 23)⟩])
                (.keep [0, 1, 12, 13, 24]
                 (.cond (.t 24)
                  (.seq
                   (.ops [⟨some 4, none, .mv (.k (.bool false))⟩])
                   .ret)
                  .skip)))))
             (.keep [0, 1, 12, 13]
              (.ops [⟨some 25, none, .bin .add (.t 13) (.k (.int .i64 1))⟩,
                ⟨some 13, none, .mv (.t 25)⟩]))))))))))
     (.keep []
      (.seq
       (.ops [⟨some 4, none, .mv (.k (.bool true))⟩])
       .ret)))))) }
structure N146 (R : Env) : Prop where
  o146 : R.Fn 146 c146
/-- umbra.film.alike[int][int] -/
def c147 : IFn := { np := 2, rs := [.t 4], body :=
 (.seq
  (.ops [⟨some 4, none, .mv (.k (.bool false))⟩])
  (.seq
   (.seq
    (.ops [⟨some 6, none, .mv (.t 0)⟩,
      ⟨some 7, none, .lenS (.t 6)⟩,
      ⟨some 8, none, .mv (.t 1)⟩,
      ⟨some 9, none, .lenS (.t 8)⟩,
      ⟨some 10, none, .bin .neq (.t 7) (.t 9)⟩])
    (.keep [0, 1, 10]
     (.cond (.t 10)
      (.seq
       (.ops [⟨some 4, none, .mv (.k (.bool false))⟩])
       .ret)
      .skip)))
   (.keep [0, 1]
    (.seq
     (.seq
      (.ops [⟨some 11, none, .mv (.t 0)⟩,
        ⟨some 12, none, .lenS (.t 11)⟩,
        ⟨some 13, none, .mv (.k (.int .i64 0))⟩])
      (.keep [0, 1, 12, 13]
       (.block 0
        (.loop
         (.seq
          (.ops [⟨some 14, none, .bin .lss (.t 13) (.t 12)⟩])
          (.seq
           (.cond (.t 14)
            .skip
            (.exit 0))
           (.keep [0, 1, 12, 13]
            (.seq
             (.block 1
              (.seq
               (.ops [⟨some 15, none, .mv (.t 13)⟩,
                 ⟨some 5, none, .mv (.t 15)⟩])
               (.seq
                (.draw [0, 0, 3, 7, 0, 0, 48, 112, 255] [[0], [5], [16, 17], [18], [1], [5], [20, 21], [22], [19, 23]] [⟨some 16, none, .mv (.t 0)⟩,
                  ⟨some 17, none, .mv (.t 5)⟩,
                  ⟨some 18, none, .idxS 1 (.t 16) (.t 17)⟩,
                  ⟨some 19, none, .load false 1 (.t 18)⟩,
                  ⟨some 20, none, .mv (.t 1)⟩,
                  ⟨some 21, none, .mv (.t 5)⟩,
                  ⟨some 22, none, .idxS 1 (.t 20) (.t 21)⟩,
                  ⟨some 23, none, .load false 1 (.t 22)⟩,
                  ⟨some 24, none, .bin .neq (.t 19) (.t 23)⟩])
                (.keep [0, 1, 12, 13, 24]
                 (.cond (.t 24)
                  (.seq
                   (.ops [⟨some 4, none, .mv (.k (.bool false))⟩])
                   .ret)
                  .skip)))))
             (.keep [0, 1, 12, 13]
              (.ops [⟨some 25, none, .bin .add (.t 13) (.k (.int .i64 1))⟩,
                ⟨some 13, none, .mv (.t 25)⟩]))))))))))
     (.keep []
      (.seq
       (.ops [⟨some 4, none, .mv (.k (.bool true))⟩])
       .ret)))))) }
structure N147 (R : Env) : Prop where
  o147 : R.Fn 147 c147
/-- umbra.film.Same -/
def c120 : IFn := { np := 2, rs := [.t 4], body :=
 (.seq
  (.ops [⟨some 2, none, .box 16 (.t 0)⟩,
    ⟨some 3, none, .box 16 (.t 1)⟩,
    ⟨some 4, none, .mv (.k (.bool false))⟩])
  (.seq
   (.ops [⟨some 5, none, .fldA 0 (.t 2)⟩,
     ⟨some 6, none, .load false 1 (.t 5)⟩,
     ⟨some 7, none, .fldA 0 (.t 3)⟩,
     ⟨some 8, none, .load false 1 (.t 7)⟩,
     ⟨some 9, none, .bin .eql (.t 6) (.t 8)⟩,
     ⟨some 10, none, .mv (.t 9)⟩,
     ⟨some 11, some (10, true), .fldA 1 (.t 2)⟩,
     ⟨some 12, some (10, true), .load false 1 (.t 11)⟩,
     ⟨some 13, some (10, true), .fldA 1 (.t 3)⟩,
     ⟨some 14, some (10, true), .load false 1 (.t 13)⟩,
     ⟨some 15, some (10, true), .bin .eql (.t 12) (.t 14)⟩,
     ⟨some 16, none, .pick (.t 10) (.t 15) (.k (.bool false))⟩,
     ⟨some 17, none, .mv (.t 16)⟩,
     ⟨some 18, some (17, true), .fldA 2 (.t 2)⟩,
     ⟨some 19, some (17, true), .load false 1 (.t 18)⟩,
     ⟨some 20, some (17, true), .fldA 2 (.t 3)⟩,
     ⟨some 21, some (17, true), .load false 1 (.t 20)⟩,
     ⟨some 22, some (17, true), .call 146 [.t 19, .t 21]⟩,
     ⟨some 23, none, .pick (.t 17) (.t 22) (.k (.bool false))⟩,
     ⟨some 24, none, .mv (.t 23)⟩,
     ⟨some 25, some (24, true), .fldA 3 (.t 2)⟩,
     ⟨some 26, some (24, true), .load false 1 (.t 25)⟩,
     ⟨some 27, some (24, true), .fldA 3 (.t 3)⟩,
     ⟨some 28, some (24, true), .load false 1 (.t 27)⟩,
     ⟨some 29, some (24, true), .call 147 [.t 26, .t 28]⟩,
     ⟨some 30, none, .pick (.t 24) (.t 29) (.k (.bool false))⟩,
     ⟨some 31, none, .mv (.t 30)⟩,
     ⟨some 32, some (31, true), .fldA 4 (.t 2)⟩,
     ⟨some 33, some (31, true), .load false 1 (.t 32)⟩,
     ⟨some 34, some (31, true), .fldA 4 (.t 3)⟩,
     ⟨some 35, some (31, true), .load false 1 (.t 34)⟩,
     ⟨some 36, some (31, true), .call 147 [.t 33, .t 35]⟩,
     ⟨some 37, none, .pick (.t 31) (.t 36) (.k (.bool false))⟩,
     ⟨some 38, none, .mv (.t 37)⟩,
     ⟨some 39, some (38, true), .fldA 5 (.t 2)⟩,
     ⟨some 40, some (38, true), .load false 1 (.t 39)⟩,
     ⟨some 41, some (38, true), .fldA 5 (.t 3)⟩,
     ⟨some 42, some (38, true), .load false 1 (.t 41)⟩,
     ⟨some 43, some (38, true), .call 146 [.t 40, .t 42]⟩,
     ⟨some 44, none, .pick (.t 38) (.t 43) (.k (.bool false))⟩,
     ⟨some 45, none, .mv (.t 44)⟩,
     ⟨some 46, some (45, true), .fldA 6 (.t 2)⟩,
     ⟨some 47, some (45, true), .load false 1 (.t 46)⟩,
     ⟨some 48, some (45, true), .fldA 6 (.t 3)⟩,
     ⟨some 49, some (45, true), .load false 1 (.t 48)⟩,
     ⟨some 50, some (45, true), .call 147 [.t 47, .t 49]⟩,
     ⟨some 51, none, .pick (.t 45) (.t 50) (.k (.bool false))⟩,
     ⟨some 52, none, .mv (.t 51)⟩,
     ⟨some 53, some (52, true), .fldA 7 (.t 2)⟩,
     ⟨some 54, some (52, true), .load false 1 (.t 53)⟩,
     ⟨some 55, some (52, true), .fldA 7 (.t 3)⟩,
     ⟨some 56, some (52, true), .load false 1 (.t 55)⟩,
     ⟨some 57, some (52, true), .call 147 [.t 54, .t 56]⟩,
     ⟨some 58, none, .pick (.t 52) (.t 57) (.k (.bool false))⟩,
     ⟨some 4, none, .mv (.t 58)⟩])
   (.keep [4]
    .ret))) }
structure N120 (R : Env) : Prop where
  o120 : R.Fn 120 c120
  n146 : N146 R
  n147 : N147 R
end Go.UM

/- The resolved code of package lib, function by function; numbers are those of the register, the same for all programs. -/

namespace Go.UM
open Go.AM
/-- bytes.Equal -/
def c47 : IFn := { np := 2, rs := [.t 4], body :=
 (.seq
  (.ops [⟨some 4, none, .mv (.k (.bool false))⟩])
  (.seq
   (.ops [⟨some 5, none, .mv (.t 0)⟩,
     ⟨some 6, none, .b2s (.t 5)⟩,
     ⟨some 7, none, .mv (.t 1)⟩,
     ⟨some 8, none, .b2s (.t 7)⟩,
     ⟨some 9, none, .bst .eql (.t 6) (.t 8)⟩,
     ⟨some 4, none, .mv (.t 9)⟩])
   (.keep [4]
    .ret))) }
structure N47 (R : Env) : Prop where
  o47 : R.Fn 47 c47
/-- slices.Clone[[]byte,byte][[]uint8,uint8] -/
def c62 : IFn := { np := 1, rs := [.t 2], body :=
 (.seq
  (.ops [⟨some 2, none, .mv (.k (.nils))⟩])
  (.seq
   (.seq
    (.ops [⟨some 3, none, .mv (.t 0)⟩,
      ⟨some 4, none, .isnS false (.t 3)⟩])
    (.cond (.t 4)
     (.seq
      (.ops [⟨some 2, none, .mv (.k (.nils))⟩])
      .ret)
     .skip))
   (.keep [0]
    (.seq
     (.ops [⟨some 5, none, .bslice 4 1 0 [.int .u8 0] []⟩,
       ⟨some 6, none, .mv (.t 0)⟩,
       ⟨some 7, none, .app 4 1 (.t 5) (.t 6)⟩,
       ⟨some 2, none, .mv (.t 7)⟩])
     .ret)))) }
structure N62 (R : Env) : Prop where
  o62 : R.Fn 62 c62
/-- slices.Index[[]int,int][[]int,int] -/
def c106 : IFn := { np := 2, rs := [.t 4], body :=
 (.seq
  (.ops [⟨some 4, none, .mv (.k (.int .i64 0))⟩])
  (.seq
   (.seq
    (.ops [⟨some 6, none, .mv (.t 0)⟩,
      ⟨some 7, none, .lenS (.t 6)⟩,
      ⟨some 8, none, .mv (.k (.int .i64 0))⟩])
    (.keep [0, 1, 7, 8]
     (.block 0
      (.loop
       (.seq
        (.ops [⟨some 9, none, .bin .lss (.t 8) (.t 7)⟩])
        (.seq
         (.cond (.t 9)
          .skip
          (.exit 0))
         (.keep [0, 1, 7, 8]
          (.seq
           (.block 1
            (.seq
             (.ops [⟨some 10, none, .mv (.t 8)⟩,
               ⟨some 5, none, .mv (.t 10)⟩])
             (.seq
              (.ops [⟨some 11, none, .mv (.t 1)⟩,
                ⟨some 12, none, .mv (.t 0)⟩,
                ⟨some 13, none, .mv (.t 5)⟩,
                ⟨some 14, none, .idxS 1 (.t 12) (.t 13)⟩,
                ⟨some 15, none, .load false 1 (.t 14)⟩,
                ⟨some 16, none, .bin .eql (.t 11) (.t 15)⟩])
              (.keep [0, 1, 5, 7, 8, 16]
               (.cond (.t 16)
                (.seq
                 (.ops [⟨some 17, none, .mv (.t 5)⟩,
                   ⟨some 4, none, .mv (.t 17)⟩])
                 .ret)
                .skip)))))
           (.keep [0, 1, 7, 8]
            (.ops [⟨some 18, none, .bin .add (.t 8) (.k (.int .i64 1))⟩,
              ⟨some 8, none, .mv (.t 18)⟩]))))))))))
   (.keep []
    (.seq
     (.ops [⟨some 4, none, .mv (.k (.int .i64 (-1)))⟩])
     .ret)))) }
structure N106 (R : Env) : Prop where
  o106 : R.Fn 106 c106
/-- slices.Contains[[]int,int][[]int,int] -/
def c100 : IFn := { np := 2, rs := [.t 4], body :=
 (.seq
  (.ops [⟨some 4, none, .mv (.k (.bool false))⟩])
  (.seq
   (.ops [⟨some 5, none, .mv (.t 0)⟩,
     ⟨some 6, none, .mv (.t 1)⟩,
     ⟨some 7, none, .call 106 [.t 5, .t 6]⟩,
     ⟨some 8, none, .bin .geq (.t 7) (.k (.int .i64 0))⟩,
     ⟨some 4, none, .mv (.t 8)⟩])
   (.keep [4]
    .ret))) }
structure N100 (R : Env) : Prop where
  o100 : R.Fn 100 c100
  n106 : N106 R
/-- slices.Clone[[][3]int,[3]int][[][3]int,[3]int] -/
def c101 : IFn := { np := 1, rs := [.t 2], body :=
 (.seq
  (.ops [⟨some 2, none, .mv (.k (.nils))⟩])
  (.seq
   (.seq
    (.ops [⟨some 3, none, .mv (.t 0)⟩,
      ⟨some 4, none, .isnS false (.t 3)⟩])
    (.cond (.t 4)
     (.seq
      (.ops [⟨some 2, none, .mv (.k (.nils))⟩])
      .ret)
     .skip))
   (.keep [0]
    (.seq
     (.ops [⟨some 5, none, .bslice 13 3 0 [.int .i64 0, .int .i64 0, .int .i64 0] []⟩,
       ⟨some 6, none, .mv (.t 0)⟩,
       ⟨some 7, none, .app 13 3 (.t 5) (.t 6)⟩,
       ⟨some 2, none, .mv (.t 7)⟩])
     .ret)))) }
structure N101 (R : Env) : Prop where
  o101 : R.Fn 101 c101
/-- slices.Clone[[]int,int][[]int,int] -/
def c156 : IFn := { np := 1, rs := [.t 2], body :=
 (.seq
  (.ops [⟨some 2, none, .mv (.k (.nils))⟩])
  (.seq
   (.seq
    (.ops [⟨some 3, none, .mv (.t 0)⟩,
      ⟨some 4, none, .isnS false (.t 3)⟩])
    (.cond (.t 4)
     (.seq
      (.ops [⟨some 2, none, .mv (.k (.nils))⟩])
      .ret)
     .skip))
   (.keep [0]
    (.seq
     (.ops [⟨some 5, none, .bslice 10 1 0 [.int .i64 0] []⟩,
       ⟨some 6, none, .mv (.t 0)⟩,
       ⟨some 7, none, .app 10 1 (.t 5) (.t 6)⟩,
       ⟨some 2, none, .mv (.t 7)⟩])
     .ret)))) }
structure N156 (R : Env) : Prop where
  o156 : R.Fn 156 c156
/-- slices.IndexFunc[[]umbra.api.Point,umbra.api.Point][[]api.Point,umbra.api.Point] -/
def c217 : IFn := { np := 2, rs := [.t 4], body :=
 (.seq
  (.ops [⟨some 4, none, .mv (.k (.int .i64 0))⟩])
  (.seq
   (.seq
    (.ops [⟨some 6, none, .mv (.t 0)⟩,
      ⟨some 7, none, .lenS (.t 6)⟩,
      ⟨some 8, none, .mv (.k (.int .i64 0))⟩])
    (.keep [0, 1, 7, 8]
     (.block 0
      (.loop
       (.seq
        (.ops [⟨some 9, none, .bin .lss (.t 8) (.t 7)⟩])
        (.seq
         (.cond (.t 9)
          .skip
          (.exit 0))
         (.keep [0, 1, 7, 8]
          (.seq
           (.block 1
            (.seq
             (.ops [⟨some 10, none, .mv (.t 8)⟩,
               ⟨some 5, none, .mv (.t 10)⟩])
             (.seq
              (.ops [⟨some 11, none, .mv (.t 1)⟩,
                ⟨some 12, none, .mv (.t 0)⟩,
                ⟨some 13, none, .mv (.t 5)⟩,
                ⟨some 14, none, .idxS 3 (.t 12) (.t 13)⟩,
                ⟨some 15, none, .load true 3 (.t 14)⟩,
                ⟨some 16, none, .callv (.t 11) [.t 15]⟩])
              (.keep [0, 1, 5, 7, 8, 16]
               (.cond (.t 16)
                (.seq
                 (.ops [⟨some 17, none, .mv (.t 5)⟩,
                   ⟨some 4, none, .mv (.t 17)⟩])
                 .ret)
                .skip)))))
           (.keep [0, 1, 7, 8]
            (.ops [⟨some 18, none, .bin .add (.t 8) (.k (.int .i64 1))⟩,
              ⟨some 8, none, .mv (.t 18)⟩]))))))))))
   (.keep []
    (.seq
     (.ops [⟨some 4, none, .mv (.k (.int .i64 (-1)))⟩])
     .ret)))) }
structure N217 (R : Env) : Prop where
  o217 : R.Fn 217 c217
/-- slices.ContainsFunc[[]umbra.api.Point,umbra.api.Point][[]api.Point,umbra.api.Point] -/
def c209 : IFn := { np := 2, rs := [.t 4], body :=
 (.seq
  (.ops [⟨some 4, none, .mv (.k (.bool false))⟩])
  (.seq
   (.ops [⟨some 5, none, .mv (.t 0)⟩,
     ⟨some 6, none, .mv (.t 1)⟩,
     ⟨some 7, none, .call 217 [.t 5, .t 6]⟩,
     ⟨some 8, none, .bin .geq (.t 7) (.k (.int .i64 0))⟩,
     ⟨some 4, none, .mv (.t 8)⟩])
   (.keep [4]
    .ret))) }
structure N209 (R : Env) : Prop where
  o209 : R.Fn 209 c209
  n217 : N217 R
/-- slices.IndexFunc[[][2]int,[2]int][[][2]int,[2]int] -/
def c218 : IFn := { np := 2, rs := [.t 4], body :=
 (.seq
  (.ops [⟨some 4, none, .mv (.k (.int .i64 0))⟩])
  (.seq
   (.seq
    (.ops [⟨some 6, none, .mv (.t 0)⟩,
      ⟨some 7, none, .lenS (.t 6)⟩,
      ⟨some 8, none, .mv (.k (.int .i64 0))⟩])
    (.keep [0, 1, 7, 8]
     (.block 0
      (.loop
       (.seq
        (.ops [⟨some 9, none, .bin .lss (.t 8) (.t 7)⟩])
        (.seq
         (.cond (.t 9)
          .skip
          (.exit 0))
         (.keep [0, 1, 7, 8]
          (.seq
           (.block 1
            (.seq
             (.ops [⟨some 10, none, .mv (.t 8)⟩,
               ⟨some 5, none, .mv (.t 10)⟩])
             (.seq
              (.ops [⟨some 11, none, .mv (.t 1)⟩,
                ⟨some 12, none, .mv (.t 0)⟩,
                ⟨some 13, none, .mv (.t 5)⟩,
                ⟨some 14, none, .idxS 2 (.t 12) (.t 13)⟩,
                ⟨some 15, none, .load true 2 (.t 14)⟩,
                ⟨some 16, none, .callv (.t 11) [.t 15]⟩])
              (.keep [0, 1, 5, 7, 8, 16]
               (.cond (.t 16)
                (.seq
                 (.ops [⟨some 17, none, .mv (.t 5)⟩,
                   ⟨some 4, none, .mv (.t 17)⟩])
                 .ret)
                .skip)))))
           (.keep [0, 1, 7, 8]
            (.ops [⟨some 18, none, .bin .add (.t 8) (.k (.int .i64 1))⟩,
              ⟨some 8, none, .mv (.t 18)⟩]))))))))))
   (.keep []
    (.seq
     (.ops [⟨some 4, none, .mv (.k (.int .i64 (-1)))⟩])
     .ret)))) }
structure N218 (R : Env) : Prop where
  o218 : R.Fn 218 c218
/-- slices.ContainsFunc[[][2]int,[2]int][[][2]int,[2]int] -/
def c210 : IFn := { np := 2, rs := [.t 4], body :=
 (.seq
  (.ops [⟨some 4, none, .mv (.k (.bool false))⟩])
  (.seq
   (.ops [⟨some 5, none, .mv (.t 0)⟩,
     ⟨some 6, none, .mv (.t 1)⟩,
     ⟨some 7, none, .call 218 [.t 5, .t 6]⟩,
     ⟨some 8, none, .bin .geq (.t 7) (.k (.int .i64 0))⟩,
     ⟨some 4, none, .mv (.t 8)⟩])
   (.keep [4]
    .ret))) }
structure N210 (R : Env) : Prop where
  o210 : R.Fn 210 c210
  n218 : N218 R
/-- slices.IndexFunc[[][3]int,[3]int][[][3]int,[3]int] -/
def c219 : IFn := { np := 2, rs := [.t 4], body :=
 (.seq
  (.ops [⟨some 4, none, .mv (.k (.int .i64 0))⟩])
  (.seq
   (.seq
    (.ops [⟨some 6, none, .mv (.t 0)⟩,
      ⟨some 7, none, .lenS (.t 6)⟩,
      ⟨some 8, none, .mv (.k (.int .i64 0))⟩])
    (.keep [0, 1, 7, 8]
     (.block 0
      (.loop
       (.seq
        (.ops [⟨some 9, none, .bin .lss (.t 8) (.t 7)⟩])
        (.seq
         (.cond (.t 9)
          .skip
          (.exit 0))
         (.keep [0, 1, 7, 8]
          (.seq
           (.block 1
            (.seq
             (.ops [⟨some 10, none, .mv (.t 8)⟩,
               ⟨some 5, none, .mv (.t 10)⟩])
             (.seq
              (.ops [⟨some 11, none, .mv (.t 1)⟩,
                ⟨some 12, none, .mv (.t 0)⟩,
                ⟨some 13, none, .mv (.t 5)⟩,
                ⟨some 14, none, .idxS 3 (.t 12) (.t 13)⟩,
                ⟨some 15, none, .load true 3 (.t 14)⟩,
                ⟨some 16, none, .callv (.t 11) [.t 15]⟩])
              (.keep [0, 1, 5, 7, 8, 16]
               (.cond (.t 16)
                (.seq
                 (.ops [⟨some 17, none, .mv (.t 5)⟩,
                   ⟨some 4, none, .mv (.t 17)⟩])
                 .ret)
                .skip)))))
           (.keep [0, 1, 7, 8]
            (.ops [⟨some 18, none, .bin .add (.t 8) (.k (.int .i64 1))⟩,
              ⟨some 8, none, .mv (.t 18)⟩]))))))))))
   (.keep []
    (.seq
     (.ops [⟨some 4, none, .mv (.k (.int .i64 (-1)))⟩])
     .ret)))) }
structure N219 (R : Env) : Prop where
  o219 : R.Fn 219 c219
/-- slices.ContainsFunc[[][3]int,[3]int][[][3]int,[3]int] -/
def c211 : IFn := { np := 2, rs := [.t 4], body :=
 (.seq
  (.ops [⟨some 4, none, .mv (.k (.bool false))⟩])
  (.seq
   (.ops [⟨some 5, none, .mv (.t 0)⟩,
     ⟨some 6, none, .mv (.t 1)⟩,
     ⟨some 7, none, .call 219 [.t 5, .t 6]⟩,
     ⟨some 8, none, .bin .geq (.t 7) (.k (.int .i64 0))⟩,
     ⟨some 4, none, .mv (.t 8)⟩])
   (.keep [4]
    .ret))) }
structure N211 (R : Env) : Prop where
  o211 : R.Fn 211 c211
  n219 : N219 R
/-- math.bits.Mul64 -/
def c276 : IFn := { np := 2, rs := [.t 4, .t 5], body :=
 (.seq
  (.ops [⟨some 4, none, .mv (.k (.int .u64 0))⟩,
    ⟨some 5, none, .mv (.k (.int .u64 0))⟩])
  (.seq
   (.ops [⟨some 14, none, .mv (.t 0)⟩,
     ⟨some 15, none, .bin .and (.t 14) (.k (.int .u64 4294967295))⟩,
     ⟨some 6, none, .mv (.t 15)⟩])
   (.seq
    (.ops [⟨some 16, none, .mv (.t 0)⟩,
      ⟨some 17, none, .bin .shr (.t 16) (.k (.int .u64 32))⟩,
      ⟨some 7, none, .mv (.t 17)⟩])
    (.seq
     (.ops [⟨some 18, none, .mv (.t 1)⟩,
       ⟨some 19, none, .bin .and (.t 18) (.k (.int .u64 4294967295))⟩,
       ⟨some 8, none, .mv (.t 19)⟩])
     (.seq
      (.ops [⟨some 20, none, .mv (.t 1)⟩,
        ⟨some 21, none, .bin .shr (.t 20) (.k (.int .u64 32))⟩,
        ⟨some 9, none, .mv (.t 21)⟩])
      (.seq
       (.ops [⟨some 22, none, .mv (.t 6)⟩,
         ⟨some 23, none, .mv (.t 8)⟩,
         ⟨some 24, none, .bin .mul (.t 22) (.t 23)⟩,
         ⟨some 10, none, .mv (.t 24)⟩])
       (.seq
        (.ops [⟨some 25, none, .mv (.t 7)⟩,
          ⟨some 26, none, .mv (.t 8)⟩,
          ⟨some 27, none, .bin .mul (.t 25) (.t 26)⟩,
          ⟨some 28, none, .mv (.t 10)⟩,
          ⟨some 29, none, .bin .shr (.t 28) (.k (.int .u64 32))⟩,
          ⟨some 30, none, .bin .add (.t 27) (.t 29)⟩,
          ⟨some 11, none, .mv (.t 30)⟩])
        (.keep [0, 1, 6, 7, 9, 11]
         (.seq
          (.ops [⟨some 31, none, .mv (.t 11)⟩,
            ⟨some 32, none, .bin .and (.t 31) (.k (.int .u64 4294967295))⟩,
            ⟨some 12, none, .mv (.t 32)⟩])
          (.seq
           (.ops [⟨some 33, none, .mv (.t 11)⟩,
             ⟨some 34, none, .bin .shr (.t 33) (.k (.int .u64 32))⟩,
             ⟨some 13, none, .mv (.t 34)⟩])
           (.seq
            (.ops [⟨some 35, none, .mv (.t 12)⟩,
              ⟨some 36, none, .mv (.t 6)⟩,
              ⟨some 37, none, .mv (.t 9)⟩,
              ⟨some 38, none, .bin .mul (.t 36) (.t 37)⟩,
              ⟨some 39, none, .bin .add (.t 35) (.t 38)⟩,
              ⟨some 12, none, .mv (.t 39)⟩])
            (.keep [0, 1, 7, 9, 12, 13]
             (.seq
              (.ops [⟨some 40, none, .mv (.t 7)⟩,
                ⟨some 41, none, .mv (.t 9)⟩,
                ⟨some 42, none, .bin .mul (.t 40) (.t 41)⟩,
                ⟨some 43, none, .mv (.t 13)⟩,
                ⟨some 44, none, .bin .add (.t 42) (.t 43)⟩,
                ⟨some 45, none, .mv (.t 12)⟩,
                ⟨some 46, none, .bin .shr (.t 45) (.k (.int .u64 32))⟩,
                ⟨some 47, none, .bin .add (.t 44) (.t 46)⟩,
                ⟨some 4, none, .mv (.t 47)⟩])
              (.keep [0, 1, 4]
               (.seq
                (.ops [⟨some 48, none, .mv (.t 0)⟩,
                  ⟨some 49, none, .mv (.t 1)⟩,
                  ⟨some 50, none, .bin .mul (.t 48) (.t 49)⟩,
                  ⟨some 5, none, .mv (.t 50)⟩])
                .ret))))))))))))))) }
structure N276 (R : Env) : Prop where
  o276 : R.Fn 276 c276
structure N286 (R : Env) : Prop where
  x286 : R.Xn 286 "math/bits.Sub64"
/-- slices.IndexFunc[[]int,int][[]int,int] -/
def c324 : IFn := { np := 2, rs := [.t 4], body :=
 (.seq
  (.ops [⟨some 4, none, .mv (.k (.int .i64 0))⟩])
  (.seq
   (.seq
    (.ops [⟨some 6, none, .mv (.t 0)⟩,
      ⟨some 7, none, .lenS (.t 6)⟩,
      ⟨some 8, none, .mv (.k (.int .i64 0))⟩])
    (.keep [0, 1, 7, 8]
     (.block 0
      (.loop
       (.seq
        (.ops [⟨some 9, none, .bin .lss (.t 8) (.t 7)⟩])
        (.seq
         (.cond (.t 9)
          .skip
          (.exit 0))
         (.keep [0, 1, 7, 8]
          (.seq
           (.block 1
            (.seq
             (.ops [⟨some 10, none, .mv (.t 8)⟩,
               ⟨some 5, none, .mv (.t 10)⟩])
             (.seq
              (.ops [⟨some 11, none, .mv (.t 1)⟩,
                ⟨some 12, none, .mv (.t 0)⟩,
                ⟨some 13, none, .mv (.t 5)⟩,
                ⟨some 14, none, .idxS 1 (.t 12) (.t 13)⟩,
                ⟨some 15, none, .load false 1 (.t 14)⟩,
                ⟨some 16, none, .callv (.t 11) [.t 15]⟩])
              (.keep [0, 1, 5, 7, 8, 16]
               (.cond (.t 16)
                (.seq
                 (.ops [⟨some 17, none, .mv (.t 5)⟩,
                   ⟨some 4, none, .mv (.t 17)⟩])
                 .ret)
                .skip)))))
           (.keep [0, 1, 7, 8]
            (.ops [⟨some 18, none, .bin .add (.t 8) (.k (.int .i64 1))⟩,
              ⟨some 8, none, .mv (.t 18)⟩]))))))))))
   (.keep []
    (.seq
     (.ops [⟨some 4, none, .mv (.k (.int .i64 (-1)))⟩])
     .ret)))) }
structure N324 (R : Env) : Prop where
  o324 : R.Fn 324 c324
/-- slices.ContainsFunc[[]int,int][[]int,int] -/
def c323 : IFn := { np := 2, rs := [.t 4], body :=
 (.seq
  (.ops [⟨some 4, none, .mv (.k (.bool false))⟩])
  (.seq
   (.ops [⟨some 5, none, .mv (.t 0)⟩,
     ⟨some 6, none, .mv (.t 1)⟩,
     ⟨some 7, none, .call 324 [.t 5, .t 6]⟩,
     ⟨some 8, none, .bin .geq (.t 7) (.k (.int .i64 0))⟩,
     ⟨some 4, none, .mv (.t 8)⟩])
   (.keep [4]
    .ret))) }
structure N323 (R : Env) : Prop where
  o323 : R.Fn 323 c323
  n324 : N324 R
end Go.UM

/- The resolved code of package pam, function by function; numbers are those of the register, the same for all programs. -/

namespace Go.UM
open Go.AM
/-- umbra.pam.flat -/
def c151 : IFn := { np := 1, rs := [.t 2], body :=
 (.seq
  (.ops [⟨some 2, none, .mv (.k (.nils))⟩])
  (.seq
   (.ops [⟨some 3, none, .mv (.k (.nils))⟩])
   (.seq
    (.seq
     (.ops [⟨some 6, none, .mv (.t 0)⟩,
       ⟨some 7, none, .lenS (.t 6)⟩,
       ⟨some 8, none, .mv (.k (.int .i64 0))⟩])
     (.keep [3, 6, 7, 8]
      (.block 0
       (.loop
        (.seq
         (.ops [⟨some 9, none, .bin .lss (.t 8) (.t 7)⟩])
         (.seq
          (.cond (.t 9)
           .skip
           (.exit 0))
          (.keep [3, 6, 7, 8]
           (.seq
            (.block 1
             (.seq
              (.ops [⟨some 10, none, .idxS 3 (.t 6) (.t 8)⟩,
                ⟨some 11, none, .load true 3 (.t 10)⟩,
                ⟨some 5, none, .alloc 13 [.int .i64 0, .int .i64 0, .int .i64 0]⟩,
                ⟨none, none, .store 3 (.t 5) (.t 11)⟩])
              (.ops [⟨some 12, none, .mv (.t 3)⟩,
                ⟨some 13, none, .slcA 3 1 (.t 5) none none none⟩,
                ⟨some 14, none, .app 10 1 (.t 12) (.t 13)⟩,
                ⟨some 3, none, .mv (.t 14)⟩])))
            (.keep [3, 6, 7, 8]
             (.ops [⟨some 15, none, .bin .add (.t 8) (.k (.int .i64 1))⟩,
               ⟨some 8, none, .mv (.t 15)⟩]))))))))))
    (.keep [3]
     (.seq
      (.ops [⟨some 16, none, .mv (.t 3)⟩,
        ⟨some 2, none, .mv (.t 16)⟩])
      .ret))))) }
structure N151 (R : Env) : Prop where
  o151 : R.Fn 151 c151
/-- umbra.pam.kinds -/
def c152 : IFn := { np := 0, rs := [.cell 0 true 30], body :=
 (.seq
  (.ops [⟨some 0, none, .alloc 21 [.int .i64 0, .int .i64 0, .int .i64 0, .str [], .nils, .int .i64 0, .int .i64 0, .int .i64 0, .str [], .nils, .int .i64 0, .int .i64 0, .int .i64 0, .str [], .nils, .int .i64 0, .int .i64 0, .int .i64 0, .str [], .nils, .int .i64 0, .int .i64 0, .int .i64 0, .str [], .nils, .int .i64 0, .int .i64 0, .int .i64 0, .str [], .nils]⟩])
  (.seq
   (.ops [⟨some 1, none, .build [.int .i64 0, .int .i64 0, .int .i64 0, .str [], .nils] [(3, 1, .k (.str [66, 69, 65, 85, 84, 89])), (2, 1, .k (.int .i64 3))]⟩,
     ⟨some 2, none, .build [.int .i64 0, .int .i64 0, .int .i64 0, .str [], .nils] [(3, 1, .k (.str [65, 76, 80, 72, 65])), (2, 1, .k (.int .i64 1))]⟩,
     ⟨some 3, none, .build [.int .i64 0, .int .i64 0, .int .i64 0, .str [], .nils] [(3, 1, .k (.str [68, 69, 80, 84, 72])), (2, 1, .k (.int .i64 1))]⟩,
     ⟨some 4, none, .build [.int .i64 0, .int .i64 0, .int .i64 0, .str [], .nils] [(3, 1, .k (.str [78, 79, 82, 77, 65, 76])), (2, 1, .k (.int .i64 3))]⟩,
     ⟨some 5, none, .build [.int .i64 0, .int .i64 0, .int .i64 0, .str [], .nils] [(3, 1, .k (.str [65, 83, 83, 69, 84])), (2, 1, .k (.int .i64 1))]⟩,
     ⟨some 6, none, .build [.int .i64 0, .int .i64 0, .int .i64 0, .str [], .nils] [(3, 1, .k (.str [76, 65, 66, 69, 76])), (2, 1, .k (.int .i64 1))]⟩,
     ⟨some 7, none, .build [.int .i64 0, .int .i64 0, .int .i64 0, .str [], .nils, .int .i64 0, .int .i64 0, .int .i64 0, .str [], .nils, .int .i64 0, .int .i64 0, .int .i64 0, .str [], .nils, .int .i64 0, .int .i64 0, .int .i64 0, .str [], .nils, .int .i64 0, .int .i64 0, .int .i64 0, .str [], .nils, .int .i64 0, .int .i64 0, .int .i64 0, .str [], .nils] [(0, 5, .t 1), (5, 5, .t 2), (10, 5, .t 3), (15, 5, .t 4), (20, 5, .t 5), (25, 5, .t 6)]⟩,
     ⟨none, none, .store 30 (.t 0) (.t 7)⟩])
   (.keep [0]
    .ret))) }
structure N152 (R : Env) : Prop where
  o152 : R.Fn 152 c152
/-- umbra.pam.between -/
def c157 : IFn := { np := 3, rs := [.t 6], body :=
 (.seq
  (.ops [⟨some 6, none, .mv (.k (.bool false))⟩])
  (.seq
   (.ops [⟨some 7, none, .mv (.t 0)⟩,
     ⟨some 8, none, .mv (.t 1)⟩,
     ⟨some 9, none, .bin .geq (.t 7) (.t 8)⟩,
     ⟨some 10, none, .mv (.t 9)⟩,
     ⟨some 11, some (10, true), .mv (.t 0)⟩,
     ⟨some 12, some (10, true), .mv (.t 2)⟩,
     ⟨some 13, some (10, true), .bin .leq (.t 11) (.t 12)⟩,
     ⟨some 14, none, .pick (.t 10) (.t 13) (.k (.bool false))⟩,
     ⟨some 6, none, .mv (.t 14)⟩])
   (.keep [6]
    .ret))) }
structure N157 (R : Env) : Prop where
  o157 : R.Fn 157 c157
/-- umbra.pam.named -/
def c158 : IFn := { np := 1, rs := [.t 2], body :=
 (.seq
  (.ops [⟨some 2, none, .mv (.k (.bool false))⟩])
  (.seq
   (.seq
    (.ops [⟨some 5, none, .mv (.t 0)⟩,
      ⟨some 6, none, .s2b 4 (.t 5)⟩,
      ⟨some 7, none, .lenS (.t 6)⟩,
      ⟨some 8, none, .mv (.k (.int .i64 0))⟩])
    (.keep [0, 6, 7, 8]
     (.block 0
      (.loop
       (.seq
        (.ops [⟨some 9, none, .bin .lss (.t 8) (.t 7)⟩])
        (.seq
         (.cond (.t 9)
          .skip
          (.exit 0))
         (.keep [0, 6, 7, 8]
          (.seq
           (.block 1
            (.seq
             (.ops [⟨some 10, none, .idxS 1 (.t 6) (.t 8)⟩,
               ⟨some 11, none, .load false 1 (.t 10)⟩,
               ⟨some 4, none, .mv (.t 11)⟩])
             (.seq
              (.ops [⟨some 12, none, .mv (.t 4)⟩,
                ⟨some 13, none, .bin .lss (.t 12) (.k (.int .u8 65))⟩,
                ⟨some 14, none, .mv (.t 13)⟩,
                ⟨some 15, some (14, false), .mv (.t 4)⟩,
                ⟨some 16, some (14, false), .bin .gtr (.t 15) (.k (.int .u8 90))⟩,
                ⟨some 17, none, .pick (.t 14) (.k (.bool true)) (.t 16)⟩])
              (.keep [0, 6, 7, 8, 17]
               (.cond (.t 17)
                (.seq
                 (.ops [⟨some 2, none, .mv (.k (.bool false))⟩])
                 .ret)
                .skip)))))
           (.keep [0, 6, 7, 8]
            (.ops [⟨some 18, none, .bin .add (.t 8) (.k (.int .i64 1))⟩,
              ⟨some 8, none, .mv (.t 18)⟩]))))))))))
   (.keep [0]
    (.seq
     (.ops [⟨some 19, none, .mv (.t 0)⟩,
       ⟨some 20, none, .lenT (.t 19)⟩,
       ⟨some 21, none, .call 157 [.t 20, .k (.int .i64 1), .k (.int .i64 16)]⟩,
       ⟨some 2, none, .mv (.t 21)⟩])
     .ret)))) }
structure N158 (R : Env) : Prop where
  o158 : R.Fn 158 c158
  n157 : N157 R
/-- umbra.pam.Check -/
def c153 : IFn := { np := 1, rs := [.t 2], body :=
 (.seq
  (.ops [⟨some 1, none, .box 20 (.t 0)⟩,
    ⟨some 2, none, .mv (.k (.int .i64 0))⟩])
  (.seq
   (.seq
    (.ops [⟨some 5, none, .fldA 0 (.t 1)⟩,
      ⟨some 6, none, .load false 1 (.t 5)⟩,
      ⟨some 7, none, .call 157 [.t 6, .k (.int .i64 1), .k (.int .i64 64)]⟩,
      ⟨some 8, none, .un .not (.t 7)⟩,
      ⟨some 9, none, .mv (.t 8)⟩,
      ⟨some 10, some (9, false), .fldA 1 (.t 1)⟩,
      ⟨some 11, some (9, false), .load false 1 (.t 10)⟩,
      ⟨some 12, some (9, false), .call 157 [.t 11, .k (.int .i64 1), .k (.int .i64 64)]⟩,
      ⟨some 13, some (9, false), .un .not (.t 12)⟩,
      ⟨some 14, none, .pick (.t 9) (.k (.bool true)) (.t 13)⟩,
      ⟨some 15, none, .mv (.t 14)⟩,
      ⟨some 16, some (15, false), .fldA 2 (.t 1)⟩,
      ⟨some 17, some (15, false), .load false 1 (.t 16)⟩,
      ⟨some 18, some (15, false), .call 157 [.t 17, .k (.int .i64 1), .k (.int .i64 4)]⟩,
      ⟨some 19, some (15, false), .un .not (.t 18)⟩,
      ⟨some 20, none, .pick (.t 15) (.k (.bool true)) (.t 19)⟩])
    (.keep [1, 20]
     (.cond (.t 20)
      (.seq
       (.ops [⟨some 2, none, .mv (.k (.int .i64 2))⟩])
       .ret)
      .skip)))
   (.keep [1]
    (.seq
     (.seq
      (.ops [⟨some 21, none, .fldA 3 (.t 1)⟩,
        ⟨some 22, none, .load false 1 (.t 21)⟩,
        ⟨some 23, none, .call 158 [.t 22]⟩,
        ⟨some 24, none, .un .not (.t 23)⟩,
        ⟨some 25, none, .mv (.t 24)⟩,
        ⟨some 26, some (25, false), .fldA 4 (.t 1)⟩,
        ⟨some 27, some (25, false), .load false 1 (.t 26)⟩,
        ⟨some 28, some (25, false), .lenS (.t 27)⟩,
        ⟨some 29, some (25, false), .fldA 0 (.t 1)⟩,
        ⟨some 30, some (25, false), .load false 1 (.t 29)⟩,
        ⟨some 31, some (25, false), .fldA 1 (.t 1)⟩,
        ⟨some 32, some (25, false), .load false 1 (.t 31)⟩,
        ⟨some 33, some (25, false), .bin .mul (.t 30) (.t 32)⟩,
        ⟨some 34, some (25, false), .fldA 2 (.t 1)⟩,
        ⟨some 35, some (25, false), .load false 1 (.t 34)⟩,
        ⟨some 36, some (25, false), .bin .mul (.t 33) (.t 35)⟩,
        ⟨some 37, some (25, false), .bin .neq (.t 28) (.t 36)⟩,
        ⟨some 38, none, .pick (.t 25) (.k (.bool true)) (.t 37)⟩])
      (.keep [1, 38]
       (.cond (.t 38)
        (.seq
         (.ops [⟨some 2, none, .mv (.k (.int .i64 5))⟩])
         .ret)
        .skip)))
     (.keep [1]
      (.seq
       (.seq
        (.ops [⟨some 39, none, .fldA 4 (.t 1)⟩,
          ⟨some 40, none, .load false 1 (.t 39)⟩,
          ⟨some 41, none, .lenS (.t 40)⟩,
          ⟨some 42, none, .mv (.k (.int .i64 0))⟩])
        (.keep [40, 41, 42]
         (.block 0
          (.loop
           (.seq
            (.ops [⟨some 43, none, .bin .lss (.t 42) (.t 41)⟩])
            (.seq
             (.cond (.t 43)
              .skip
              (.exit 0))
             (.keep [40, 41, 42]
              (.seq
               (.block 1
                (.seq
                 (.ops [⟨some 44, none, .idxS 1 (.t 40) (.t 42)⟩,
                   ⟨some 45, none, .load false 1 (.t 44)⟩,
                   ⟨some 4, none, .mv (.t 45)⟩])
                 (.seq
                  (.ops [⟨some 46, none, .mv (.t 4)⟩,
                    ⟨some 47, none, .call 157 [.t 46, .k (.int .i64 0), .k (.int .i64 65535)]⟩,
                    ⟨some 48, none, .un .not (.t 47)⟩])
                  (.cond (.t 48)
                   (.seq
                    (.ops [⟨some 2, none, .mv (.k (.int .i64 5))⟩])
                    .ret)
                   .skip))))
               (.keep [40, 41, 42]
                (.ops [⟨some 49, none, .bin .add (.t 42) (.k (.int .i64 1))⟩,
                  ⟨some 42, none, .mv (.t 49)⟩]))))))))))
       (.keep []
        (.seq
         (.ops [⟨some 2, none, .mv (.k (.int .i64 0))⟩])
         .ret)))))))) }
structure N153 (R : Env) : Prop where
  o153 : R.Fn 153 c153
  n157 : N157 R
  n158 : N158 R
/-- umbra.pam.Planes -/
def c132 : IFn := { np := 1, rs := [.t 2, .t 3], body :=
 (.seq
  (.ops [⟨some 1, none, .box 16 (.t 0)⟩,
    ⟨some 2, none, .mv (.k (.nils))⟩,
    ⟨some 3, none, .mv (.k (.int .i64 0))⟩])
  (.seq
   (.draw [0, 1, 3, 0, 8, 0, 32, 0, 128, 391, 0, 1024, 0, 4096, 16383, 0, 65535] [[1], [9], [10], [1], [12], [1], [14], [1], [16], [17], [1], [19], [1], [21], [11, 13, 15, 18, 20, 22], [], [4, 23]] [⟨some 9, none, .fldA 2 (.t 1)⟩,
     ⟨some 10, none, .load false 1 (.t 9)⟩,
     ⟨some 11, none, .call 151 [.t 10]⟩,
     ⟨some 12, none, .fldA 3 (.t 1)⟩,
     ⟨some 13, none, .load false 1 (.t 12)⟩,
     ⟨some 14, none, .fldA 4 (.t 1)⟩,
     ⟨some 15, none, .load false 1 (.t 14)⟩,
     ⟨some 16, none, .fldA 5 (.t 1)⟩,
     ⟨some 17, none, .load false 1 (.t 16)⟩,
     ⟨some 18, none, .call 151 [.t 17]⟩,
     ⟨some 19, none, .fldA 6 (.t 1)⟩,
     ⟨some 20, none, .load false 1 (.t 19)⟩,
     ⟨some 21, none, .fldA 7 (.t 1)⟩,
     ⟨some 22, none, .load false 1 (.t 21)⟩,
     ⟨some 23, none, .build [.nils, .nils, .nils, .nils, .nils, .nils] [(0, 1, .t 11), (1, 1, .t 13), (2, 1, .t 15), (3, 1, .t 18), (4, 1, .t 20), (5, 1, .t 22)]⟩,
     ⟨some 4, none, .alloc 19 [.nils, .nils, .nils, .nils, .nils, .nils]⟩,
     ⟨none, none, .store 6 (.t 4) (.t 23)⟩])
   (.keep [1, 4]
    (.seq
     (.ops [⟨some 5, none, .mv (.k (.nils))⟩])
     (.seq
      (.seq
       (.ops [⟨some 24, none, .call 152 []⟩,
         ⟨some 25, none, .mv (.k (.int .i64 0))⟩])
       (.keep [1, 4, 5, 24, 25]
        (.block 0
         (.loop
          (.seq
           (.ops [⟨some 26, none, .bin .lss (.t 25) (.k (.int .i64 6))⟩])
           (.seq
            (.cond (.t 26)
             .skip
             (.exit 0))
            (.keep [1, 4, 5, 24, 25]
             (.seq
              (.block 1
               (.seq
                (.ops [⟨some 27, none, .mv (.t 25)⟩,
                  ⟨some 28, none, .idxV true 6 5 (.t 24) (.t 25)⟩,
                  ⟨some 7, none, .alloc 20 [.int .i64 0, .int .i64 0, .int .i64 0, .str [], .nils]⟩,
                  ⟨some 6, none, .mv (.t 27)⟩,
                  ⟨none, none, .store 5 (.t 7) (.t 28)⟩])
                (.keep [1, 4, 5, 6, 7, 24, 25]
                 (.seq
                  (.draw [0, 1, 0, 4, 3, 19, 63, 127] [[1], [29], [1], [31], [7], [33, 30], [7], [34, 32]] [⟨some 29, none, .fldA 0 (.t 1)⟩,
                    ⟨some 30, none, .load false 1 (.t 29)⟩,
                    ⟨some 31, none, .fldA 1 (.t 1)⟩,
                    ⟨some 32, none, .load false 1 (.t 31)⟩,
                    ⟨some 33, none, .fldA 0 (.t 7)⟩,
                    ⟨none, none, .store 1 (.t 33) (.t 30)⟩,
                    ⟨some 34, none, .fldA 1 (.t 7)⟩,
                    ⟨none, none, .store 1 (.t 34) (.t 32)⟩])
                  (.keep [1, 4, 5, 6, 7, 24, 25]
                   (.seq
                    (.ops [⟨some 35, none, .bslice 10 1 0 [.int .i64 0] []⟩,
                      ⟨some 36, none, .mv (.t 6)⟩,
                      ⟨some 37, none, .idxA 6 1 (.t 4) (.t 36)⟩,
                      ⟨some 38, none, .load false 1 (.t 37)⟩,
                      ⟨some 39, none, .app 10 1 (.t 35) (.t 38)⟩,
                      ⟨some 40, none, .fldA 4 (.t 7)⟩,
                      ⟨none, none, .store 1 (.t 40) (.t 39)⟩])
                    (.keep [1, 4, 5, 7, 24, 25]
                     (.seq
                      (.seq
                       (.ops [⟨some 41, none, .load true 5 (.t 7)⟩,
                         ⟨some 42, none, .call 153 [.t 41]⟩,
                         ⟨some 8, none, .mv (.t 42)⟩])
                       (.seq
                        (.ops [⟨some 43, none, .mv (.t 8)⟩,
                          ⟨some 44, none, .bin .neq (.t 43) (.k (.int .i64 0))⟩])
                        (.cond (.t 44)
                         (.seq
                          (.ops [⟨some 45, none, .mv (.t 8)⟩,
                            ⟨some 2, none, .mv (.k (.nils))⟩,
                            ⟨some 3, none, .mv (.t 45)⟩])
                          .ret)
                         .skip)))
                      (.keep [1, 4, 5, 7, 24, 25]
                       (.ops [⟨some 46, none, .mv (.t 5)⟩,
                         ⟨some 47, none, .load true 5 (.t 7)⟩,
                         ⟨some 48, none, .bslice 20 5 1 [.int .i64 0, .int .i64 0, .int .i64 0, .str [], .nils] [(0, .t 47)]⟩,
                         ⟨some 49, none, .app 20 5 (.t 46) (.t 48)⟩,
                         ⟨some 5, none, .mv (.t 49)⟩]))))))))))
              (.keep [1, 4, 5, 24, 25]
               (.ops [⟨some 50, none, .bin .add (.t 25) (.k (.int .i64 1))⟩,
                 ⟨some 25, none, .mv (.t 50)⟩]))))))))))
      (.keep [5]
       (.seq
        (.ops [⟨some 51, none, .mv (.t 5)⟩,
          ⟨some 2, none, .mv (.t 51)⟩,
          ⟨some 3, none, .mv (.k (.int .i64 0))⟩])
        .ret))))))) }
structure N132 (R : Env) : Prop where
  o132 : R.Fn 132 c132
  n151 : N151 R
  n152 : N152 R
  n153 : N153 R
end Go.UM

/- The resolved code of package over, function by function; numbers are those of the register, the same for all programs. -/


namespace Go.UM
open Go.AM
/-- umbra.over.near -/
def c134 : IFn := { np := 1, rs := [.t 2], body :=
 (.seq
  (.ops [⟨some 2, none, .mv (.k (.int .i64 0))⟩])
  (.seq
   (.ops [⟨some 3, none, .mv (.t 0)⟩,
     ⟨some 4, none, .mm true [.t 3, .k (.int .i64 0)]⟩,
     ⟨some 5, none, .mm false [.t 4, .k (.int .i64 65535)]⟩,
     ⟨some 2, none, .mv (.t 5)⟩])
   .ret)) }
structure N134 (R : Env) : Prop where
  o134 : R.Fn 134 c134
/-- umbra.over.Mix -/
def c109 : IFn := { np := 3, rs := [.t 6], body :=
 (.seq
  (.ops [⟨some 6, none, .mv (.k (.int .i64 0))⟩])
  (.seq
   (.ops [⟨some 7, none, .mv (.t 0)⟩,
     ⟨some 8, none, .call 134 [.t 7]⟩,
     ⟨some 9, none, .mv (.t 1)⟩,
     ⟨some 10, none, .call 134 [.t 9]⟩,
     ⟨some 11, none, .mv (.t 2)⟩,
     ⟨some 12, none, .call 134 [.t 11]⟩,
     ⟨some 13, none, .bin .sub (.k (.int .i64 65535)) (.t 12)⟩,
     ⟨some 14, none, .bin .mul (.t 10) (.t 13)⟩,
     ⟨some 15, none, .bin .add (.t 14) (.k (.int .i64 32767))⟩,
     ⟨some 16, none, .bin .quo (.t 15) (.k (.int .i64 65535))⟩,
     ⟨some 17, none, .bin .add (.t 8) (.t 16)⟩,
     ⟨some 18, none, .mm false [.t 17, .k (.int .i64 65535)]⟩,
     ⟨some 6, none, .mv (.t 18)⟩])
   (.keep [6]
    .ret))) }
structure N109 (R : Env) : Prop where
  o109 : R.Fn 109 c109
  n134 : N134 R
/-- umbra.over.check -/
def c136 : IFn := { np := 1, rs := [.t 2], body :=
 (.seq
  (.ops [⟨some 2, none, .mv (.k (.int .i64 0))⟩])
  (.seq
   (.seq
    (.ops [⟨some 7, none, .mv (.t 0)⟩,
      ⟨some 8, none, .lenS (.t 7)⟩,
      ⟨some 9, none, .mv (.k (.int .i64 0))⟩])
    (.keep [7, 8, 9]
     (.block 0
      (.loop
       (.seq
        (.ops [⟨some 10, none, .bin .lss (.t 9) (.t 8)⟩])
        (.seq
         (.cond (.t 10)
          .skip
          (.exit 0))
         (.keep [7, 8, 9]
          (.seq
           (.block 1
            (.seq
             (.ops [⟨some 11, none, .idxS 8 (.t 7) (.t 9)⟩,
               ⟨some 12, none, .load true 8 (.t 11)⟩,
               ⟨some 4, none, .alloc 16 [.int .i64 0, .int .i64 0, .nils, .nils, .nils, .nils, .nils, .nils]⟩,
               ⟨none, none, .store 8 (.t 4) (.t 12)⟩])
             (.seq
              (.ops [⟨some 14, none, .load true 8 (.t 4)⟩,
                ⟨some 15, none, .call 132 [.t 14]⟩,
                ⟨some 13, none, .mv (.t 15)⟩,
                ⟨some 16, none, .ext (.t 13) 0⟩,
                ⟨some 17, none, .ext (.t 13) 1⟩,
                ⟨some 5, none, .mv (.t 16)⟩,
                ⟨some 6, none, .mv (.t 17)⟩])
              (.keep [6, 7, 8, 9]
               (.seq
                (.ops [⟨some 18, none, .mv (.t 6)⟩,
                  ⟨some 19, none, .bin .neq (.t 18) (.k (.int .i64 0))⟩])
                (.cond (.t 19)
                 (.seq
                  (.ops [⟨some 20, none, .mv (.t 6)⟩,
                    ⟨some 2, none, .mv (.t 20)⟩])
                  .ret)
                 .skip))))))
           (.keep [7, 8, 9]
            (.ops [⟨some 21, none, .bin .add (.t 9) (.k (.int .i64 1))⟩,
              ⟨some 9, none, .mv (.t 21)⟩]))))))))))
   (.keep []
    (.seq
     (.ops [⟨some 2, none, .mv (.k (.int .i64 0))⟩])
     .ret)))) }
structure N136 (R : Env) : Prop where
  o136 : R.Fn 136 c136
  n132 : N132 R
/-- umbra.over.within -/
def c137 : IFn := { np := 5, rs := [.t 10], body :=
 (.seq
  (.ops [⟨some 5, none, .box 16 (.t 0)⟩,
    ⟨some 10, none, .mv (.k (.bool false))⟩])
  (.seq
   (.ops [⟨some 11, none, .mv (.t 1)⟩,
     ⟨some 12, none, .mv (.t 2)⟩,
     ⟨some 13, none, .mm false [.t 11, .t 12]⟩,
     ⟨some 14, none, .bin .geq (.t 13) (.k (.int .i64 0))⟩,
     ⟨some 15, none, .mv (.t 14)⟩,
     ⟨some 16, some (15, true), .mv (.t 3)⟩,
     ⟨some 17, some (15, true), .mv (.t 4)⟩,
     ⟨some 18, some (15, true), .mm false [.t 16, .t 17]⟩,
     ⟨some 19, some (15, true), .bin .geq (.t 18) (.k (.int .i64 1))⟩,
     ⟨some 20, none, .pick (.t 15) (.t 19) (.k (.bool false))⟩,
     ⟨some 21, none, .mv (.t 20)⟩,
     ⟨some 22, some (21, true), .mv (.t 3)⟩,
     ⟨some 23, some (21, true), .fldA 0 (.t 5)⟩,
     ⟨some 24, some (21, true), .load false 1 (.t 23)⟩,
     ⟨some 25, some (21, true), .bin .leq (.t 22) (.t 24)⟩,
     ⟨some 26, none, .pick (.t 21) (.t 25) (.k (.bool false))⟩,
     ⟨some 27, none, .mv (.t 26)⟩,
     ⟨some 28, some (27, true), .mv (.t 4)⟩,
     ⟨some 29, some (27, true), .fldA 1 (.t 5)⟩,
     ⟨some 30, some (27, true), .load false 1 (.t 29)⟩,
     ⟨some 31, some (27, true), .bin .leq (.t 28) (.t 30)⟩,
     ⟨some 32, none, .pick (.t 27) (.t 31) (.k (.bool false))⟩,
     ⟨some 33, none, .mv (.t 32)⟩,
     ⟨some 34, some (33, true), .mv (.t 1)⟩,
     ⟨some 35, some (33, true), .fldA 0 (.t 5)⟩,
     ⟨some 36, some (33, true), .load false 1 (.t 35)⟩,
     ⟨some 37, some (33, true), .mv (.t 3)⟩,
     ⟨some 38, some (33, true), .bin .sub (.t 36) (.t 37)⟩,
     ⟨some 39, some (33, true), .bin .leq (.t 34) (.t 38)⟩,
     ⟨some 40, none, .pick (.t 33) (.t 39) (.k (.bool false))⟩,
     ⟨some 41, none, .mv (.t 40)⟩,
     ⟨some 42, some (41, true), .mv (.t 2)⟩,
     ⟨some 43, some (41, true), .fldA 1 (.t 5)⟩,
     ⟨some 44, some (41, true), .load false 1 (.t 43)⟩,
     ⟨some 45, some (41, true), .mv (.t 4)⟩,
     ⟨some 46, some (41, true), .bin .sub (.t 44) (.t 45)⟩,
     ⟨some 47, some (41, true), .bin .leq (.t 42) (.t 46)⟩,
     ⟨some 48, none, .pick (.t 41) (.t 47) (.k (.bool false))⟩,
     ⟨some 10, none, .mv (.t 48)⟩])
   (.keep [10]
    .ret))) }
structure N137 (R : Env) : Prop where
  o137 : R.Fn 137 c137
/-- umbra.over.empty$1 -/
def c154 : IFn := { np := 2, rs := [.t 2], body :=
 (.seq
  (.ops [⟨some 2, none, .mv (.k (.nils))⟩])
  (.seq
   (.ops [⟨some 3, none, .load false 1 (.t 0)⟩,
     ⟨some 4, none, .load false 1 (.t 1)⟩,
     ⟨some 5, none, .bin .mul (.t 3) (.t 4)⟩,
     ⟨some 6, none, .mks 10 1 [.int .i64 0] (.t 5) (.t 5)⟩,
     ⟨some 2, none, .mv (.t 6)⟩])
   (.keep [2]
    .ret))) }
structure N154 (R : Env) : Prop where
  o154 : R.Fn 154 c154
/-- umbra.over.empty -/
def c138 : IFn := { np := 2, rs := [.cell 4 true 8], body :=
 (.seq
  (.ops [⟨some 2, none, .box 10 (.t 0)⟩,
    ⟨some 3, none, .box 10 (.t 1)⟩,
    ⟨some 4, none, .alloc 16 [.int .i64 0, .int .i64 0, .nils, .nils, .nils, .nils, .nils, .nils]⟩])
  (.seq
   (.ops [⟨some 6, none, .mkf 154 [.t 2, .t 3]⟩,
     ⟨some 5, none, .mv (.t 6)⟩])
   (.seq
    (.draw [0, 0, 0, 0, 12, 28, 0, 64, 0, 448, 0, 0, 3072, 7168, 0, 17344, 0, 115648, 262143, 524287] [[2], [3], [2], [3], [9, 10], [11, 11], [5], [13], [5], [15], [2], [3], [17, 18], [19, 19], [5], [21], [5], [23], [7, 8, 12, 14, 16, 20, 22, 24], [4, 25]] [⟨some 7, none, .load false 1 (.t 2)⟩,
      ⟨some 8, none, .load false 1 (.t 3)⟩,
      ⟨some 9, none, .load false 1 (.t 2)⟩,
      ⟨some 10, none, .load false 1 (.t 3)⟩,
      ⟨some 11, none, .bin .mul (.t 9) (.t 10)⟩,
      ⟨some 12, none, .mks 13 3 [.int .i64 0, .int .i64 0, .int .i64 0] (.t 11) (.t 11)⟩,
      ⟨some 13, none, .mv (.t 5)⟩,
      ⟨some 14, none, .callr (.t 13) []⟩,
      ⟨some 15, none, .mv (.t 5)⟩,
      ⟨some 16, none, .callr (.t 15) []⟩,
      ⟨some 17, none, .load false 1 (.t 2)⟩,
      ⟨some 18, none, .load false 1 (.t 3)⟩,
      ⟨some 19, none, .bin .mul (.t 17) (.t 18)⟩,
      ⟨some 20, none, .mks 13 3 [.int .i64 0, .int .i64 0, .int .i64 0] (.t 19) (.t 19)⟩,
      ⟨some 21, none, .mv (.t 5)⟩,
      ⟨some 22, none, .callr (.t 21) []⟩,
      ⟨some 23, none, .mv (.t 5)⟩,
      ⟨some 24, none, .callr (.t 23) []⟩,
      ⟨some 25, none, .build [.int .i64 0, .int .i64 0, .nils, .nils, .nils, .nils, .nils, .nils] [(0, 1, .t 7), (1, 1, .t 8), (2, 1, .t 12), (3, 1, .t 14), (4, 1, .t 16), (5, 1, .t 20), (6, 1, .t 22), (7, 1, .t 24)]⟩,
      ⟨none, none, .store 8 (.t 4) (.t 25)⟩])
    (.keep [4]
     .ret)))) }
structure N138 (R : Env) : Prop where
  o138 : R.Fn 138 c138
  n154 : N154 R
/-- umbra.over.move -/
def c139 : IFn := { np := 4, rs := [], body :=
 (.seq
  (.ops [⟨some 6, none, .box 16 (.t 2)⟩])
  (.seq
   (.draw [0, 1, 3, 7, 0, 0, 32, 96, 224, 0, 0, 1024, 3072, 7168, 0, 0, 32768, 0, 229376, 491520, 0, 1048576, 0, 7340032, 15728640, 0, 33554432, 0, 234881024, 503316480, 1073724927, 2147466751, 4294950911, 8589918207, 17179869183, 34359738367] [[0], [8], [9], [10], [1], [0], [13], [14], [15], [1], [0], [18], [19], [20], [1], [6], [23], [3], [24, 25], [26], [6], [28], [3], [29, 30], [31], [6], [33], [3], [34, 35], [36], [11, 12], [38, 27], [16, 17], [39, 32], [21, 22], [40, 37]] [⟨some 8, none, .mv (.t 0)⟩,
     ⟨some 9, none, .nilck (.t 8)⟩,
     ⟨some 10, none, .fldA 2 (.t 9)⟩,
     ⟨some 11, none, .load false 1 (.t 10)⟩,
     ⟨some 12, none, .mv (.t 1)⟩,
     ⟨some 13, none, .mv (.t 0)⟩,
     ⟨some 14, none, .nilck (.t 13)⟩,
     ⟨some 15, none, .fldA 3 (.t 14)⟩,
     ⟨some 16, none, .load false 1 (.t 15)⟩,
     ⟨some 17, none, .mv (.t 1)⟩,
     ⟨some 18, none, .mv (.t 0)⟩,
     ⟨some 19, none, .nilck (.t 18)⟩,
     ⟨some 20, none, .fldA 4 (.t 19)⟩,
     ⟨some 21, none, .load false 1 (.t 20)⟩,
     ⟨some 22, none, .mv (.t 1)⟩,
     ⟨some 23, none, .fldA 2 (.t 6)⟩,
     ⟨some 24, none, .load false 1 (.t 23)⟩,
     ⟨some 25, none, .mv (.t 3)⟩,
     ⟨some 26, none, .idxS 3 (.t 24) (.t 25)⟩,
     ⟨some 27, none, .load true 3 (.t 26)⟩,
     ⟨some 28, none, .fldA 3 (.t 6)⟩,
     ⟨some 29, none, .load false 1 (.t 28)⟩,
     ⟨some 30, none, .mv (.t 3)⟩,
     ⟨some 31, none, .idxS 1 (.t 29) (.t 30)⟩,
     ⟨some 32, none, .load false 1 (.t 31)⟩,
     ⟨some 33, none, .fldA 4 (.t 6)⟩,
     ⟨some 34, none, .load false 1 (.t 33)⟩,
     ⟨some 35, none, .mv (.t 3)⟩,
     ⟨some 36, none, .idxS 1 (.t 34) (.t 35)⟩,
     ⟨some 37, none, .load false 1 (.t 36)⟩,
     ⟨some 38, none, .idxS 3 (.t 11) (.t 12)⟩,
     ⟨none, none, .store 3 (.t 38) (.t 27)⟩,
     ⟨some 39, none, .idxS 1 (.t 16) (.t 17)⟩,
     ⟨none, none, .store 1 (.t 39) (.t 32)⟩,
     ⟨some 40, none, .idxS 1 (.t 21) (.t 22)⟩,
     ⟨none, none, .store 1 (.t 40) (.t 37)⟩])
   (.keep [0, 1, 3, 6]
    (.draw [0, 1, 3, 7, 0, 0, 32, 96, 224, 0, 0, 1024, 3072, 7168, 0, 0, 32768, 0, 229376, 491520, 0, 1048576, 0, 7340032, 15728640, 0, 33554432, 0, 234881024, 503316480, 1073724927, 2147466751, 4294950911, 8589918207, 17179869183, 34359738367] [[0], [41], [42], [43], [1], [0], [46], [47], [48], [1], [0], [51], [52], [53], [1], [6], [56], [3], [57, 58], [59], [6], [61], [3], [62, 63], [64], [6], [66], [3], [67, 68], [69], [44, 45], [71, 60], [49, 50], [72, 65], [54, 55], [73, 70]] [⟨some 41, none, .mv (.t 0)⟩,
      ⟨some 42, none, .nilck (.t 41)⟩,
      ⟨some 43, none, .fldA 5 (.t 42)⟩,
      ⟨some 44, none, .load false 1 (.t 43)⟩,
      ⟨some 45, none, .mv (.t 1)⟩,
      ⟨some 46, none, .mv (.t 0)⟩,
      ⟨some 47, none, .nilck (.t 46)⟩,
      ⟨some 48, none, .fldA 6 (.t 47)⟩,
      ⟨some 49, none, .load false 1 (.t 48)⟩,
      ⟨some 50, none, .mv (.t 1)⟩,
      ⟨some 51, none, .mv (.t 0)⟩,
      ⟨some 52, none, .nilck (.t 51)⟩,
      ⟨some 53, none, .fldA 7 (.t 52)⟩,
      ⟨some 54, none, .load false 1 (.t 53)⟩,
      ⟨some 55, none, .mv (.t 1)⟩,
      ⟨some 56, none, .fldA 5 (.t 6)⟩,
      ⟨some 57, none, .load false 1 (.t 56)⟩,
      ⟨some 58, none, .mv (.t 3)⟩,
      ⟨some 59, none, .idxS 3 (.t 57) (.t 58)⟩,
      ⟨some 60, none, .load true 3 (.t 59)⟩,
      ⟨some 61, none, .fldA 6 (.t 6)⟩,
      ⟨some 62, none, .load false 1 (.t 61)⟩,
      ⟨some 63, none, .mv (.t 3)⟩,
      ⟨some 64, none, .idxS 1 (.t 62) (.t 63)⟩,
      ⟨some 65, none, .load false 1 (.t 64)⟩,
      ⟨some 66, none, .fldA 7 (.t 6)⟩,
      ⟨some 67, none, .load false 1 (.t 66)⟩,
      ⟨some 68, none, .mv (.t 3)⟩,
      ⟨some 69, none, .idxS 1 (.t 67) (.t 68)⟩,
      ⟨some 70, none, .load false 1 (.t 69)⟩,
      ⟨some 71, none, .idxS 3 (.t 44) (.t 45)⟩,
      ⟨none, none, .store 3 (.t 71) (.t 60)⟩,
      ⟨some 72, none, .idxS 1 (.t 49) (.t 50)⟩,
      ⟨none, none, .store 1 (.t 72) (.t 65)⟩,
      ⟨some 73, none, .idxS 1 (.t 54) (.t 55)⟩,
      ⟨none, none, .store 1 (.t 73) (.t 70)⟩])))) }
structure N139 (R : Env) : Prop where
  o139 : R.Fn 139 c139
/-- umbra.over.Crop -/
def c113 : IFn := { np := 5, rs := [.cell 10 true 8, .t 11], body :=
 (.seq
  (.ops [⟨some 5, none, .box 16 (.t 0)⟩,
    ⟨some 10, none, .alloc 16 [.int .i64 0, .int .i64 0, .nils, .nils, .nils, .nils, .nils, .nils]⟩,
    ⟨some 11, none, .mv (.k (.int .i64 0))⟩])
  (.seq
   (.seq
    (.ops [⟨some 15, none, .load true 8 (.t 5)⟩,
      ⟨some 16, none, .bslice 16 8 1 [.int .i64 0, .int .i64 0, .nils, .nils, .nils, .nils, .nils, .nils] [(0, .t 15)]⟩,
      ⟨some 17, none, .call 136 [.t 16]⟩,
      ⟨some 12, none, .mv (.t 17)⟩])
    (.seq
     (.ops [⟨some 18, none, .mv (.t 12)⟩,
       ⟨some 19, none, .bin .neq (.t 18) (.k (.int .i64 0))⟩])
     (.cond (.t 19)
      (.seq
       (.ops [⟨some 20, none, .build [.int .i64 0, .int .i64 0, .nils, .nils, .nils, .nils, .nils, .nils] []⟩,
         ⟨some 21, none, .mv (.t 12)⟩,
         ⟨none, none, .store 8 (.t 10) (.t 20)⟩,
         ⟨some 11, none, .mv (.t 21)⟩])
       .ret)
      .skip)))
   (.keep [1, 2, 3, 4, 5, 10]
    (.seq
     (.seq
      (.ops [⟨some 22, none, .load true 8 (.t 5)⟩,
        ⟨some 23, none, .mv (.t 1)⟩,
        ⟨some 24, none, .mv (.t 2)⟩,
        ⟨some 25, none, .mv (.t 3)⟩,
        ⟨some 26, none, .mv (.t 4)⟩,
        ⟨some 27, none, .call 137 [.t 22, .t 23, .t 24, .t 25, .t 26]⟩,
        ⟨some 28, none, .un .not (.t 27)⟩])
      (.keep [1, 2, 3, 4, 5, 10, 28]
       (.cond (.t 28)
        (.seq
         (.ops [⟨some 29, none, .build [.int .i64 0, .int .i64 0, .nils, .nils, .nils, .nils, .nils, .nils] []⟩,
           ⟨none, none, .store 8 (.t 10) (.t 29)⟩,
           ⟨some 11, none, .mv (.k (.int .i64 2))⟩])
         .ret)
        .skip)))
     (.keep [1, 2, 3, 4, 5, 10]
      (.seq
       (.ops [⟨some 30, none, .mv (.t 3)⟩,
         ⟨some 31, none, .mv (.t 4)⟩,
         ⟨some 32, none, .call 138 [.t 30, .t 31]⟩,
         ⟨some 13, none, .alloc 16 [.int .i64 0, .int .i64 0, .nils, .nils, .nils, .nils, .nils, .nils]⟩,
         ⟨none, none, .store 8 (.t 13) (.t 32)⟩])
       (.keep [1, 2, 3, 4, 5, 10, 13]
        (.seq
         (.seq
          (.ops [⟨some 33, none, .mv (.t 3)⟩,
            ⟨some 34, none, .mv (.t 4)⟩,
            ⟨some 35, none, .bin .mul (.t 33) (.t 34)⟩,
            ⟨some 36, none, .mv (.k (.int .i64 0))⟩])
          (.keep [1, 2, 3, 5, 10, 13, 35, 36]
           (.block 0
            (.loop
             (.seq
              (.ops [⟨some 37, none, .bin .lss (.t 36) (.t 35)⟩])
              (.seq
               (.cond (.t 37)
                .skip
                (.exit 0))
               (.keep [1, 2, 3, 5, 10, 13, 35, 36]
                (.seq
                 (.block 1
                  (.seq
                   (.ops [⟨some 38, none, .mv (.t 36)⟩,
                     ⟨some 14, none, .mv (.t 38)⟩])
                   (.draw [0, 0, 0, 0, 0, 24, 60, 0, 128, 508, 0, 2044, 0, 0, 12288, 32764, 65535] [[14], [5], [2], [14], [3], [42, 43], [41, 44], [5], [46], [45, 47], [1], [48, 49], [14], [3], [51, 52], [50, 53], [13, 39, 40, 54]] [⟨some 39, none, .mv (.t 14)⟩,
                     ⟨some 40, none, .load true 8 (.t 5)⟩,
                     ⟨some 41, none, .mv (.t 2)⟩,
                     ⟨some 42, none, .mv (.t 14)⟩,
                     ⟨some 43, none, .mv (.t 3)⟩,
                     ⟨some 44, none, .bin .quo (.t 42) (.t 43)⟩,
                     ⟨some 45, none, .bin .add (.t 41) (.t 44)⟩,
                     ⟨some 46, none, .fldA 0 (.t 5)⟩,
                     ⟨some 47, none, .load false 1 (.t 46)⟩,
                     ⟨some 48, none, .bin .mul (.t 45) (.t 47)⟩,
                     ⟨some 49, none, .mv (.t 1)⟩,
                     ⟨some 50, none, .bin .add (.t 48) (.t 49)⟩,
                     ⟨some 51, none, .mv (.t 14)⟩,
                     ⟨some 52, none, .mv (.t 3)⟩,
                     ⟨some 53, none, .bin .rem (.t 51) (.t 52)⟩,
                     ⟨some 54, none, .bin .add (.t 50) (.t 53)⟩,
                     ⟨some 55, none, .callw (.f 139) [.t 13, .t 39, .t 40, .t 54]⟩])))
                 (.keep [1, 2, 3, 5, 10, 13, 35, 36]
                  (.ops [⟨some 56, none, .bin .add (.t 36) (.k (.int .i64 1))⟩,
                    ⟨some 36, none, .mv (.t 56)⟩]))))))))))
         (.keep [10, 13]
          (.seq
           (.ops [⟨some 57, none, .load true 8 (.t 13)⟩,
             ⟨none, none, .store 8 (.t 10) (.t 57)⟩,
             ⟨some 11, none, .mv (.k (.int .i64 0))⟩])
           .ret)))))))))) }
structure N113 (R : Env) : Prop where
  o113 : R.Fn 113 c113
  n136 : N136 R
  n137 : N137 R
  n138 : N138 R
  n139 : N139 R
/-- umbra.over.copied -/
def c143 : IFn := { np := 1, rs := [.cell 2 true 8], body :=
 (.seq
  (.ops [⟨some 1, none, .box 16 (.t 0)⟩,
    ⟨some 2, none, .alloc 16 [.int .i64 0, .int .i64 0, .nils, .nils, .nils, .nils, .nils, .nils]⟩])
  (.seq
   (.draw [0, 1, 0, 4, 0, 16, 48, 0, 128, 496, 0, 1024, 4080, 0, 8192, 32752, 0, 65536, 262128, 0, 524288, 2097136, 4194303, 8388607] [[1], [3], [1], [5], [1], [7], [8], [1], [10], [11], [1], [13], [14], [1], [16], [17], [1], [19], [20], [1], [22], [23], [4, 6, 9, 12, 15, 18, 21, 24], [2, 25]] [⟨some 3, none, .fldA 0 (.t 1)⟩,
     ⟨some 4, none, .load false 1 (.t 3)⟩,
     ⟨some 5, none, .fldA 1 (.t 1)⟩,
     ⟨some 6, none, .load false 1 (.t 5)⟩,
     ⟨some 7, none, .fldA 2 (.t 1)⟩,
     ⟨some 8, none, .load false 1 (.t 7)⟩,
     ⟨some 9, none, .call 101 [.t 8]⟩,
     ⟨some 10, none, .fldA 3 (.t 1)⟩,
     ⟨some 11, none, .load false 1 (.t 10)⟩,
     ⟨some 12, none, .call 156 [.t 11]⟩,
     ⟨some 13, none, .fldA 4 (.t 1)⟩,
     ⟨some 14, none, .load false 1 (.t 13)⟩,
     ⟨some 15, none, .call 156 [.t 14]⟩,
     ⟨some 16, none, .fldA 5 (.t 1)⟩,
     ⟨some 17, none, .load false 1 (.t 16)⟩,
     ⟨some 18, none, .call 101 [.t 17]⟩,
     ⟨some 19, none, .fldA 6 (.t 1)⟩,
     ⟨some 20, none, .load false 1 (.t 19)⟩,
     ⟨some 21, none, .call 156 [.t 20]⟩,
     ⟨some 22, none, .fldA 7 (.t 1)⟩,
     ⟨some 23, none, .load false 1 (.t 22)⟩,
     ⟨some 24, none, .call 156 [.t 23]⟩,
     ⟨some 25, none, .build [.int .i64 0, .int .i64 0, .nils, .nils, .nils, .nils, .nils, .nils] [(0, 1, .t 4), (1, 1, .t 6), (2, 1, .t 9), (3, 1, .t 12), (4, 1, .t 15), (5, 1, .t 18), (6, 1, .t 21), (7, 1, .t 24)]⟩,
     ⟨none, none, .store 8 (.t 2) (.t 25)⟩])
   (.keep [2]
    .ret))) }
structure N143 (R : Env) : Prop where
  o143 : R.Fn 143 c143
  n101 : N101 R
  n156 : N156 R
/-- umbra.over.Put -/
def c115 : IFn := { np := 4, rs := [.cell 8 true 8, .t 9], body :=
 (.seq
  (.ops [⟨some 4, none, .box 16 (.t 0)⟩,
    ⟨some 5, none, .box 16 (.t 1)⟩,
    ⟨some 8, none, .alloc 16 [.int .i64 0, .int .i64 0, .nils, .nils, .nils, .nils, .nils, .nils]⟩,
    ⟨some 9, none, .mv (.k (.int .i64 0))⟩])
  (.seq
   (.seq
    (.ops [⟨some 13, none, .load true 8 (.t 4)⟩,
      ⟨some 14, none, .load true 8 (.t 5)⟩,
      ⟨some 15, none, .bslice 16 8 2 [.int .i64 0, .int .i64 0, .nils, .nils, .nils, .nils, .nils, .nils] [(0, .t 13), (1, .t 14)]⟩,
      ⟨some 16, none, .call 136 [.t 15]⟩,
      ⟨some 10, none, .mv (.t 16)⟩])
    (.keep [2, 3, 4, 5, 8, 10]
     (.seq
      (.ops [⟨some 17, none, .mv (.t 10)⟩,
        ⟨some 18, none, .bin .neq (.t 17) (.k (.int .i64 0))⟩])
      (.cond (.t 18)
       (.seq
        (.ops [⟨some 19, none, .build [.int .i64 0, .int .i64 0, .nils, .nils, .nils, .nils, .nils, .nils] []⟩,
          ⟨some 20, none, .mv (.t 10)⟩,
          ⟨none, none, .store 8 (.t 8) (.t 19)⟩,
          ⟨some 9, none, .mv (.t 20)⟩])
        .ret)
       .skip))))
   (.keep [2, 3, 4, 5, 8]
    (.seq
     (.seq
      (.ops [⟨some 21, none, .load true 8 (.t 4)⟩,
        ⟨some 22, none, .mv (.t 2)⟩,
        ⟨some 23, none, .mv (.t 3)⟩,
        ⟨some 24, none, .fldA 0 (.t 5)⟩,
        ⟨some 25, none, .load false 1 (.t 24)⟩,
        ⟨some 26, none, .fldA 1 (.t 5)⟩,
        ⟨some 27, none, .load false 1 (.t 26)⟩,
        ⟨some 28, none, .call 137 [.t 21, .t 22, .t 23, .t 25, .t 27]⟩,
        ⟨some 29, none, .un .not (.t 28)⟩])
      (.keep [2, 3, 4, 5, 8, 29]
       (.cond (.t 29)
        (.seq
         (.ops [⟨some 30, none, .build [.int .i64 0, .int .i64 0, .nils, .nils, .nils, .nils, .nils, .nils] []⟩,
           ⟨none, none, .store 8 (.t 8) (.t 30)⟩,
           ⟨some 9, none, .mv (.k (.int .i64 2))⟩])
         .ret)
        .skip)))
     (.keep [2, 3, 4, 5, 8]
      (.seq
       (.ops [⟨some 31, none, .load true 8 (.t 4)⟩,
         ⟨some 32, none, .call 143 [.t 31]⟩,
         ⟨some 11, none, .alloc 16 [.int .i64 0, .int .i64 0, .nils, .nils, .nils, .nils, .nils, .nils]⟩,
         ⟨none, none, .store 8 (.t 11) (.t 32)⟩])
       (.seq
        (.seq
         (.ops [⟨some 33, none, .fldA 0 (.t 5)⟩,
           ⟨some 34, none, .load false 1 (.t 33)⟩,
           ⟨some 35, none, .fldA 1 (.t 5)⟩,
           ⟨some 36, none, .load false 1 (.t 35)⟩,
           ⟨some 37, none, .bin .mul (.t 34) (.t 36)⟩,
           ⟨some 38, none, .mv (.k (.int .i64 0))⟩])
         (.keep [2, 3, 4, 5, 8, 11, 37, 38]
          (.block 0
           (.loop
            (.seq
             (.ops [⟨some 39, none, .bin .lss (.t 38) (.t 37)⟩])
             (.seq
              (.cond (.t 39)
               .skip
               (.exit 0))
              (.keep [2, 3, 4, 5, 8, 11, 37, 38]
               (.seq
                (.block 1
                 (.seq
                  (.ops [⟨some 40, none, .mv (.t 38)⟩,
                    ⟨some 12, none, .mv (.t 40)⟩])
                  (.draw [0, 0, 0, 4, 14, 31, 0, 64, 255, 0, 1023, 0, 0, 4096, 14336, 32767, 0, 0, 262143] [[3], [12], [5], [43], [42, 44], [41, 45], [4], [47], [46, 48], [2], [49, 50], [12], [5], [53], [52, 54], [51, 55], [5], [12], [11, 56, 57, 58]] [⟨some 41, none, .mv (.t 3)⟩,
                    ⟨some 42, none, .mv (.t 12)⟩,
                    ⟨some 43, none, .fldA 0 (.t 5)⟩,
                    ⟨some 44, none, .load false 1 (.t 43)⟩,
                    ⟨some 45, none, .bin .quo (.t 42) (.t 44)⟩,
                    ⟨some 46, none, .bin .add (.t 41) (.t 45)⟩,
                    ⟨some 47, none, .fldA 0 (.t 4)⟩,
                    ⟨some 48, none, .load false 1 (.t 47)⟩,
                    ⟨some 49, none, .bin .mul (.t 46) (.t 48)⟩,
                    ⟨some 50, none, .mv (.t 2)⟩,
                    ⟨some 51, none, .bin .add (.t 49) (.t 50)⟩,
                    ⟨some 52, none, .mv (.t 12)⟩,
                    ⟨some 53, none, .fldA 0 (.t 5)⟩,
                    ⟨some 54, none, .load false 1 (.t 53)⟩,
                    ⟨some 55, none, .bin .rem (.t 52) (.t 54)⟩,
                    ⟨some 56, none, .bin .add (.t 51) (.t 55)⟩,
                    ⟨some 57, none, .load true 8 (.t 5)⟩,
                    ⟨some 58, none, .mv (.t 12)⟩,
                    ⟨some 59, none, .callw (.f 139) [.t 11, .t 56, .t 57, .t 58]⟩])))
                (.keep [2, 3, 4, 5, 8, 11, 37, 38]
                 (.ops [⟨some 60, none, .bin .add (.t 38) (.k (.int .i64 1))⟩,
                   ⟨some 38, none, .mv (.t 60)⟩]))))))))))
        (.keep [8, 11]
         (.seq
          (.ops [⟨some 61, none, .load true 8 (.t 11)⟩,
            ⟨none, none, .store 8 (.t 8) (.t 61)⟩,
            ⟨some 9, none, .mv (.k (.int .i64 0))⟩])
          .ret))))))))) }
structure N115 (R : Env) : Prop where
  o115 : R.Fn 115 c115
  n136 : N136 R
  n137 : N137 R
  n139 : N139 R
  n143 : N143 R
/-- umbra.over.Over -/
def c119 : IFn := { np := 2, rs := [.cell 4 true 8, .t 5], body :=
 (.seq
  (.ops [⟨some 2, none, .box 16 (.t 0)⟩,
    ⟨some 3, none, .box 16 (.t 1)⟩,
    ⟨some 4, none, .alloc 16 [.int .i64 0, .int .i64 0, .nils, .nils, .nils, .nils, .nils, .nils]⟩,
    ⟨some 5, none, .mv (.k (.int .i64 0))⟩])
  (.seq
   (.seq
    (.ops [⟨some 11, none, .load true 8 (.t 2)⟩,
      ⟨some 12, none, .load true 8 (.t 3)⟩,
      ⟨some 13, none, .bslice 16 8 2 [.int .i64 0, .int .i64 0, .nils, .nils, .nils, .nils, .nils, .nils] [(0, .t 11), (1, .t 12)]⟩,
      ⟨some 14, none, .call 136 [.t 13]⟩,
      ⟨some 6, none, .mv (.t 14)⟩])
    (.keep [2, 3, 4, 6]
     (.seq
      (.ops [⟨some 15, none, .mv (.t 6)⟩,
        ⟨some 16, none, .bin .neq (.t 15) (.k (.int .i64 0))⟩])
      (.cond (.t 16)
       (.seq
        (.ops [⟨some 17, none, .build [.int .i64 0, .int .i64 0, .nils, .nils, .nils, .nils, .nils, .nils] []⟩,
          ⟨some 18, none, .mv (.t 6)⟩,
          ⟨none, none, .store 8 (.t 4) (.t 17)⟩,
          ⟨some 5, none, .mv (.t 18)⟩])
        .ret)
       .skip))))
   (.keep [2, 3, 4]
    (.seq
     (.seq
      (.ops [⟨some 19, none, .fldA 0 (.t 2)⟩,
        ⟨some 20, none, .load false 1 (.t 19)⟩,
        ⟨some 21, none, .fldA 0 (.t 3)⟩,
        ⟨some 22, none, .load false 1 (.t 21)⟩,
        ⟨some 23, none, .bin .neq (.t 20) (.t 22)⟩,
        ⟨some 24, none, .mv (.t 23)⟩,
        ⟨some 25, some (24, false), .fldA 1 (.t 2)⟩,
        ⟨some 26, some (24, false), .load false 1 (.t 25)⟩,
        ⟨some 27, some (24, false), .fldA 1 (.t 3)⟩,
        ⟨some 28, some (24, false), .load false 1 (.t 27)⟩,
        ⟨some 29, some (24, false), .bin .neq (.t 26) (.t 28)⟩,
        ⟨some 30, none, .pick (.t 24) (.k (.bool true)) (.t 29)⟩])
      (.keep [2, 3, 4, 30]
       (.cond (.t 30)
        (.seq
         (.ops [⟨some 31, none, .build [.int .i64 0, .int .i64 0, .nils, .nils, .nils, .nils, .nils, .nils] []⟩,
           ⟨none, none, .store 8 (.t 4) (.t 31)⟩,
           ⟨some 5, none, .mv (.k (.int .i64 2))⟩])
         .ret)
        .skip)))
     (.keep [2, 3, 4]
      (.seq
       (.ops [⟨some 32, none, .load true 8 (.t 3)⟩,
         ⟨some 33, none, .call 143 [.t 32]⟩,
         ⟨some 7, none, .alloc 16 [.int .i64 0, .int .i64 0, .nils, .nils, .nils, .nils, .nils, .nils]⟩,
         ⟨none, none, .store 8 (.t 7) (.t 33)⟩])
       (.seq
        (.seq
         (.ops [⟨some 34, none, .fldA 3 (.t 2)⟩,
           ⟨some 35, none, .load false 1 (.t 34)⟩,
           ⟨some 36, none, .lenS (.t 35)⟩,
           ⟨some 37, none, .mv (.k (.int .i64 0))⟩])
         (.keep [2, 3, 4, 7, 35, 36, 37]
          (.block 0
           (.loop
            (.seq
             (.ops [⟨some 38, none, .bin .lss (.t 37) (.t 36)⟩])
             (.seq
              (.cond (.t 38)
               .skip
               (.exit 0))
              (.keep [2, 3, 4, 7, 35, 36, 37]
               (.seq
                (.block 1
                 (.seq
                  (.ops [⟨some 39, none, .mv (.t 37)⟩,
                    ⟨some 40, none, .idxS 1 (.t 35) (.t 37)⟩,
                    ⟨some 41, none, .load false 1 (.t 40)⟩,
                    ⟨some 8, none, .mv (.t 39)⟩,
                    ⟨some 9, none, .mv (.t 41)⟩])
                  (.keep [2, 3, 4, 7, 8, 9, 35, 36, 37]
                   (.seq
                    (.seq
                     (.ops [⟨some 42, none, .mv (.t 9)⟩,
                       ⟨some 43, none, .bin .gtr (.t 42) (.k (.int .i64 32767))⟩])
                     (.cond (.t 43)
                      (.ops [⟨some 44, none, .mv (.t 8)⟩,
                        ⟨some 45, none, .load true 8 (.t 2)⟩,
                        ⟨some 46, none, .mv (.t 8)⟩,
                        ⟨some 47, none, .call 139 [.t 7, .t 44, .t 45, .t 46]⟩])
                      .skip))
                    (.keep [2, 3, 4, 7, 8, 9, 35, 36, 37]
                     (.seq
                      (.seq
                       (.ops [⟨some 48, none, .mv (.k (.int .i64 0))⟩])
                       (.keep [2, 3, 4, 7, 8, 9, 35, 36, 37, 48]
                        (.block 2
                         (.loop
                          (.seq
                           (.ops [⟨some 49, none, .bin .lss (.t 48) (.k (.int .i64 3))⟩])
                           (.seq
                            (.cond (.t 49)
                             .skip
                             (.exit 2))
                            (.keep [2, 3, 4, 7, 8, 9, 35, 36, 37, 48]
                             (.seq
                              (.block 3
                               (.seq
                                (.ops [⟨some 50, none, .mv (.t 48)⟩,
                                  ⟨some 10, none, .mv (.t 50)⟩])
                                (.draw [0, 1, 0, 0, 0, 16, 0, 0, 112, 496, 1008, 0, 2048, 0, 0, 14336, 63488, 129024, 0, 524272, 7, 2097151, 4194303] [[7], [51], [8], [10], [2], [55], [8], [10], [56, 57], [59, 58], [60], [3], [62], [8], [10], [63, 64], [66, 65], [67], [9], [61, 68, 69], [52, 53], [71, 54], [72, 70]] [⟨some 51, none, .fldA 2 (.t 7)⟩,
                                  ⟨some 52, none, .load false 1 (.t 51)⟩,
                                  ⟨some 53, none, .mv (.t 8)⟩,
                                  ⟨some 54, none, .mv (.t 10)⟩,
                                  ⟨some 55, none, .fldA 2 (.t 2)⟩,
                                  ⟨some 56, none, .load false 1 (.t 55)⟩,
                                  ⟨some 57, none, .mv (.t 8)⟩,
                                  ⟨some 58, none, .mv (.t 10)⟩,
                                  ⟨some 59, none, .idxS 3 (.t 56) (.t 57)⟩,
                                  ⟨some 60, none, .idxA 3 1 (.t 59) (.t 58)⟩,
                                  ⟨some 61, none, .load false 1 (.t 60)⟩,
                                  ⟨some 62, none, .fldA 2 (.t 3)⟩,
                                  ⟨some 63, none, .load false 1 (.t 62)⟩,
                                  ⟨some 64, none, .mv (.t 8)⟩,
                                  ⟨some 65, none, .mv (.t 10)⟩,
                                  ⟨some 66, none, .idxS 3 (.t 63) (.t 64)⟩,
                                  ⟨some 67, none, .idxA 3 1 (.t 66) (.t 65)⟩,
                                  ⟨some 68, none, .load false 1 (.t 67)⟩,
                                  ⟨some 69, none, .mv (.t 9)⟩,
                                  ⟨some 70, none, .call 109 [.t 61, .t 68, .t 69]⟩,
                                  ⟨some 71, none, .idxS 3 (.t 52) (.t 53)⟩,
                                  ⟨some 72, none, .idxA 3 1 (.t 71) (.t 54)⟩,
                                  ⟨none, none, .store 1 (.t 72) (.t 70)⟩])))
                              (.keep [2, 3, 4, 7, 8, 9, 35, 36, 37, 48]
                               (.ops [⟨some 73, none, .bin .add (.t 48) (.k (.int .i64 1))⟩,
                                 ⟨some 48, none, .mv (.t 73)⟩]))))))))))
                      (.keep [2, 3, 4, 7, 8, 9, 35, 36, 37]
                       (.draw [0, 1, 0, 0, 0, 16, 0, 112, 240, 0, 1016, 2047, 4095] [[7], [74], [8], [9], [3], [78], [8], [79, 80], [81], [9], [77, 82, 83], [75, 76], [85, 84]] [⟨some 74, none, .fldA 3 (.t 7)⟩,
                         ⟨some 75, none, .load false 1 (.t 74)⟩,
                         ⟨some 76, none, .mv (.t 8)⟩,
                         ⟨some 77, none, .mv (.t 9)⟩,
                         ⟨some 78, none, .fldA 3 (.t 3)⟩,
                         ⟨some 79, none, .load false 1 (.t 78)⟩,
                         ⟨some 80, none, .mv (.t 8)⟩,
                         ⟨some 81, none, .idxS 1 (.t 79) (.t 80)⟩,
                         ⟨some 82, none, .load false 1 (.t 81)⟩,
                         ⟨some 83, none, .mv (.t 9)⟩,
                         ⟨some 84, none, .call 109 [.t 77, .t 82, .t 83]⟩,
                         ⟨some 85, none, .idxS 1 (.t 75) (.t 76)⟩,
                         ⟨none, none, .store 1 (.t 85) (.t 84)⟩]))))))))
                (.keep [2, 3, 4, 7, 35, 36, 37]
                 (.ops [⟨some 86, none, .bin .add (.t 37) (.k (.int .i64 1))⟩,
                   ⟨some 37, none, .mv (.t 86)⟩]))))))))))
        (.keep [4, 7]
         (.seq
          (.ops [⟨some 87, none, .load true 8 (.t 7)⟩,
            ⟨none, none, .store 8 (.t 4) (.t 87)⟩,
            ⟨some 5, none, .mv (.k (.int .i64 0))⟩])
          .ret))))))))) }
structure N119 (R : Env) : Prop where
  o119 : R.Fn 119 c119
  n109 : N109 R
  n136 : N136 R
  n139 : N139 R
  n143 : N143 R
/-- umbra.over.Apart$1 -/
def c148 : IFn := { np := 3, rs := [], body :=
 (.ops [⟨some 5, none, .load false 1 (.t 2)⟩,
   ⟨some 6, none, .mv (.t 0)⟩,
   ⟨some 7, none, .mv (.t 1)⟩,
   ⟨some 8, none, .bin .sub (.t 6) (.t 7)⟩,
   ⟨some 9, none, .mv (.t 1)⟩,
   ⟨some 10, none, .mv (.t 0)⟩,
   ⟨some 11, none, .bin .sub (.t 9) (.t 10)⟩,
   ⟨some 12, none, .mm true [.t 5, .t 8, .t 11]⟩,
   ⟨none, none, .store 1 (.t 2) (.t 12)⟩]) }
structure N148 (R : Env) : Prop where
  o148 : R.Fn 148 c148
/-- umbra.over.Apart -/
def c123 : IFn := { np := 2, rs := [.t 4, .cell 5 false 1, .t 6], body :=
 (.seq
  (.ops [⟨some 2, none, .box 16 (.t 0)⟩,
    ⟨some 3, none, .box 16 (.t 1)⟩,
    ⟨some 4, none, .mv (.k (.int .i64 0))⟩,
    ⟨some 5, none, .alloc 10 [.int .i64 0]⟩,
    ⟨some 6, none, .mv (.k (.int .i64 0))⟩])
  (.keep [2, 3, 4, 5]
   (.seq
    (.seq
     (.ops [⟨some 11, none, .load true 8 (.t 2)⟩,
       ⟨some 12, none, .load true 8 (.t 3)⟩,
       ⟨some 13, none, .bslice 16 8 2 [.int .i64 0, .int .i64 0, .nils, .nils, .nils, .nils, .nils, .nils] [(0, .t 11), (1, .t 12)]⟩,
       ⟨some 14, none, .call 136 [.t 13]⟩,
       ⟨some 7, none, .mv (.t 14)⟩])
     (.keep [2, 3, 4, 5, 7]
      (.seq
       (.ops [⟨some 15, none, .mv (.t 7)⟩,
         ⟨some 16, none, .bin .neq (.t 15) (.k (.int .i64 0))⟩])
       (.cond (.t 16)
        (.seq
         (.ops [⟨some 17, none, .mv (.t 7)⟩,
           ⟨some 4, none, .mv (.k (.int .i64 0))⟩,
           ⟨none, none, .store 1 (.t 5) (.k (.int .i64 0))⟩,
           ⟨some 6, none, .mv (.t 17)⟩])
         .ret)
        .skip))))
    (.keep [2, 3, 4, 5]
     (.seq
      (.seq
       (.ops [⟨some 18, none, .fldA 0 (.t 2)⟩,
         ⟨some 19, none, .load false 1 (.t 18)⟩,
         ⟨some 20, none, .fldA 0 (.t 3)⟩,
         ⟨some 21, none, .load false 1 (.t 20)⟩,
         ⟨some 22, none, .bin .neq (.t 19) (.t 21)⟩,
         ⟨some 23, none, .mv (.t 22)⟩,
         ⟨some 24, some (23, false), .fldA 1 (.t 2)⟩,
         ⟨some 25, some (23, false), .load false 1 (.t 24)⟩,
         ⟨some 26, some (23, false), .fldA 1 (.t 3)⟩,
         ⟨some 27, some (23, false), .load false 1 (.t 26)⟩,
         ⟨some 28, some (23, false), .bin .neq (.t 25) (.t 27)⟩,
         ⟨some 29, none, .pick (.t 23) (.k (.bool true)) (.t 28)⟩])
       (.keep [2, 3, 4, 5, 29]
        (.cond (.t 29)
         (.seq
          (.ops [⟨some 4, none, .mv (.k (.int .i64 0))⟩,
            ⟨none, none, .store 1 (.t 5) (.k (.int .i64 0))⟩,
            ⟨some 6, none, .mv (.k (.int .i64 2))⟩])
          .ret)
         .skip)))
      (.keep [2, 3, 4, 5]
       (.seq
        (.seq
         (.ops [⟨some 30, none, .fldA 3 (.t 2)⟩,
           ⟨some 31, none, .load false 1 (.t 30)⟩,
           ⟨some 32, none, .lenS (.t 31)⟩,
           ⟨some 33, none, .mv (.k (.int .i64 0))⟩])
         (.keep [2, 3, 4, 5, 32, 33]
          (.block 0
           (.loop
            (.seq
             (.ops [⟨some 34, none, .bin .lss (.t 33) (.t 32)⟩])
             (.seq
              (.cond (.t 34)
               .skip
               (.exit 0))
              (.keep [2, 3, 4, 5, 32, 33]
               (.seq
                (.block 1
                 (.seq
                  (.ops [⟨some 35, none, .mv (.t 33)⟩,
                    ⟨some 8, none, .mv (.t 35)⟩])
                  (.seq
                   (.ops [⟨some 36, none, .mkf 148 [.t 5]⟩,
                     ⟨some 9, none, .mv (.t 36)⟩])
                   (.seq
                    (.seq
                     (.ops [⟨some 37, none, .mv (.k (.int .i64 0))⟩])
                     (.keep [2, 3, 4, 5, 8, 9, 32, 33, 37]
                      (.block 2
                       (.loop
                        (.seq
                         (.ops [⟨some 38, none, .bin .lss (.t 37) (.k (.int .i64 3))⟩])
                         (.seq
                          (.cond (.t 38)
                           .skip
                           (.exit 2))
                          (.keep [2, 3, 4, 5, 8, 9, 32, 33, 37]
                           (.seq
                            (.block 3
                             (.seq
                              (.ops [⟨some 39, none, .mv (.t 37)⟩,
                                ⟨some 10, none, .mv (.t 39)⟩])
                              (.draw [0, 0, 2, 0, 0, 14, 62, 126, 0, 256, 0, 0, 1792, 7936, 16128, 32767] [[9], [2], [41], [8], [10], [42, 43], [45, 44], [46], [3], [48], [8], [10], [49, 50], [52, 51], [53], [40, 47, 54]] [⟨some 40, none, .mv (.t 9)⟩,
                                ⟨some 41, none, .fldA 2 (.t 2)⟩,
                                ⟨some 42, none, .load false 1 (.t 41)⟩,
                                ⟨some 43, none, .mv (.t 8)⟩,
                                ⟨some 44, none, .mv (.t 10)⟩,
                                ⟨some 45, none, .idxS 3 (.t 42) (.t 43)⟩,
                                ⟨some 46, none, .idxA 3 1 (.t 45) (.t 44)⟩,
                                ⟨some 47, none, .load false 1 (.t 46)⟩,
                                ⟨some 48, none, .fldA 2 (.t 3)⟩,
                                ⟨some 49, none, .load false 1 (.t 48)⟩,
                                ⟨some 50, none, .mv (.t 8)⟩,
                                ⟨some 51, none, .mv (.t 10)⟩,
                                ⟨some 52, none, .idxS 3 (.t 49) (.t 50)⟩,
                                ⟨some 53, none, .idxA 3 1 (.t 52) (.t 51)⟩,
                                ⟨some 54, none, .load false 1 (.t 53)⟩,
                                ⟨some 55, none, .callv (.t 40) [.t 47, .t 54]⟩])))
                            (.keep [2, 3, 4, 5, 8, 9, 32, 33, 37]
                             (.ops [⟨some 56, none, .bin .add (.t 37) (.k (.int .i64 1))⟩,
                               ⟨some 37, none, .mv (.t 56)⟩]))))))))))
                    (.keep [2, 3, 4, 5, 8, 9, 32, 33]
                     (.seq
                      (.draw [0, 0, 2, 0, 14, 30, 0, 64, 0, 448, 960, 2047] [[9], [2], [58], [8], [59, 60], [61], [3], [63], [8], [64, 65], [66], [57, 62, 67]] [⟨some 57, none, .mv (.t 9)⟩,
                        ⟨some 58, none, .fldA 3 (.t 2)⟩,
                        ⟨some 59, none, .load false 1 (.t 58)⟩,
                        ⟨some 60, none, .mv (.t 8)⟩,
                        ⟨some 61, none, .idxS 1 (.t 59) (.t 60)⟩,
                        ⟨some 62, none, .load false 1 (.t 61)⟩,
                        ⟨some 63, none, .fldA 3 (.t 3)⟩,
                        ⟨some 64, none, .load false 1 (.t 63)⟩,
                        ⟨some 65, none, .mv (.t 8)⟩,
                        ⟨some 66, none, .idxS 1 (.t 64) (.t 65)⟩,
                        ⟨some 67, none, .load false 1 (.t 66)⟩,
                        ⟨some 68, none, .callv (.t 57) [.t 62, .t 67]⟩])
                      (.keep [2, 3, 4, 5, 8, 32, 33]
                       (.seq
                        (.draw [0, 1, 0, 7, 15, 0, 32, 0, 224, 480, 1023, 2047, 4095, 8191, 4095, 32767, 65535, 4095, 135167, 4095, 921599, 1970175, 4194303, 8388607, 16777215, 33554431, 67108863, 33554431, 268435455, 536870911, 33554431, 1107296255, 33554431, 7549747199, 16139681791, 34359738367, 68719476735, 137438953471, 274877906943, 549755813887, 274877906943, 2199023255551, 4398046511103, 274877906943, 9070970929151, 274877906943, 61847529062399, 132216273240063, 281474976710655, 562949953421311, 1125899906842623, 2251799813685247, 4503599627370495, 2251799813685247, 18014398509481983, 36028797018963967, 2251799813685247, 74309393851613183, 2251799813685247, 506654958079180799, 1083115710382604287, 2305843009213693951, 4611686018427387903, 9223372036854775807, 18446744073709551615, 36893488147419103231, 18446744073709551615, 147573952589676412927, 295147905179352825855, 18446744073709551615, 608742554432415203327, 18446744073709551615, 4150517416584649113599, 8872883899454294327295, 18889465931478580854783, 37778931862957161709567] [[2], [69], [8], [70, 71], [72], [3], [74], [8], [75, 76], [77], [73, 78], [79], [2], [81], [8], [82, 83], [84], [3], [86], [8], [87, 88], [89], [85, 90], [80, 91], [92], [2], [94], [8], [95, 96], [97], [3], [99], [8], [100, 101], [102], [98, 103], [93, 104], [105], [2], [107], [8], [108, 109], [110], [3], [112], [8], [113, 114], [115], [111, 116], [106, 117], [118], [2], [120], [8], [121, 122], [123], [3], [125], [8], [126, 127], [128], [124, 129], [119, 130], [131], [2], [133], [8], [134, 135], [136], [3], [138], [8], [139, 140], [141], [137, 142], [132, 143]] [⟨some 69, none, .fldA 2 (.t 2)⟩,
                          ⟨some 70, none, .load false 1 (.t 69)⟩,
                          ⟨some 71, none, .mv (.t 8)⟩,
                          ⟨some 72, none, .idxS 3 (.t 70) (.t 71)⟩,
                          ⟨some 73, none, .load true 3 (.t 72)⟩,
                          ⟨some 74, none, .fldA 2 (.t 3)⟩,
                          ⟨some 75, none, .load false 1 (.t 74)⟩,
                          ⟨some 76, none, .mv (.t 8)⟩,
                          ⟨some 77, none, .idxS 3 (.t 75) (.t 76)⟩,
                          ⟨some 78, none, .load true 3 (.t 77)⟩,
                          ⟨some 79, none, .eqa true [.i, .i, .i] (.t 73) (.t 78)⟩,
                          ⟨some 80, none, .mv (.t 79)⟩,
                          ⟨some 81, some (80, false), .fldA 3 (.t 2)⟩,
                          ⟨some 82, some (80, false), .load false 1 (.t 81)⟩,
                          ⟨some 83, some (80, false), .mv (.t 8)⟩,
                          ⟨some 84, some (80, false), .idxS 1 (.t 82) (.t 83)⟩,
                          ⟨some 85, some (80, false), .load false 1 (.t 84)⟩,
                          ⟨some 86, some (80, false), .fldA 3 (.t 3)⟩,
                          ⟨some 87, some (80, false), .load false 1 (.t 86)⟩,
                          ⟨some 88, some (80, false), .mv (.t 8)⟩,
                          ⟨some 89, some (80, false), .idxS 1 (.t 87) (.t 88)⟩,
                          ⟨some 90, some (80, false), .load false 1 (.t 89)⟩,
                          ⟨some 91, some (80, false), .bin .neq (.t 85) (.t 90)⟩,
                          ⟨some 92, none, .pick (.t 80) (.k (.bool true)) (.t 91)⟩,
                          ⟨some 93, none, .mv (.t 92)⟩,
                          ⟨some 94, some (93, false), .fldA 4 (.t 2)⟩,
                          ⟨some 95, some (93, false), .load false 1 (.t 94)⟩,
                          ⟨some 96, some (93, false), .mv (.t 8)⟩,
                          ⟨some 97, some (93, false), .idxS 1 (.t 95) (.t 96)⟩,
                          ⟨some 98, some (93, false), .load false 1 (.t 97)⟩,
                          ⟨some 99, some (93, false), .fldA 4 (.t 3)⟩,
                          ⟨some 100, some (93, false), .load false 1 (.t 99)⟩,
                          ⟨some 101, some (93, false), .mv (.t 8)⟩,
                          ⟨some 102, some (93, false), .idxS 1 (.t 100) (.t 101)⟩,
                          ⟨some 103, some (93, false), .load false 1 (.t 102)⟩,
                          ⟨some 104, some (93, false), .bin .neq (.t 98) (.t 103)⟩,
                          ⟨some 105, none, .pick (.t 93) (.k (.bool true)) (.t 104)⟩,
                          ⟨some 106, none, .mv (.t 105)⟩,
                          ⟨some 107, some (106, false), .fldA 5 (.t 2)⟩,
                          ⟨some 108, some (106, false), .load false 1 (.t 107)⟩,
                          ⟨some 109, some (106, false), .mv (.t 8)⟩,
                          ⟨some 110, some (106, false), .idxS 3 (.t 108) (.t 109)⟩,
                          ⟨some 111, some (106, false), .load true 3 (.t 110)⟩,
                          ⟨some 112, some (106, false), .fldA 5 (.t 3)⟩,
                          ⟨some 113, some (106, false), .load false 1 (.t 112)⟩,
                          ⟨some 114, some (106, false), .mv (.t 8)⟩,
                          ⟨some 115, some (106, false), .idxS 3 (.t 113) (.t 114)⟩,
                          ⟨some 116, some (106, false), .load true 3 (.t 115)⟩,
                          ⟨some 117, some (106, false), .eqa true [.i, .i, .i] (.t 111) (.t 116)⟩,
                          ⟨some 118, none, .pick (.t 106) (.k (.bool true)) (.t 117)⟩,
                          ⟨some 119, none, .mv (.t 118)⟩,
                          ⟨some 120, some (119, false), .fldA 6 (.t 2)⟩,
                          ⟨some 121, some (119, false), .load false 1 (.t 120)⟩,
                          ⟨some 122, some (119, false), .mv (.t 8)⟩,
                          ⟨some 123, some (119, false), .idxS 1 (.t 121) (.t 122)⟩,
                          ⟨some 124, some (119, false), .load false 1 (.t 123)⟩,
                          ⟨some 125, some (119, false), .fldA 6 (.t 3)⟩,
                          ⟨some 126, some (119, false), .load false 1 (.t 125)⟩,
                          ⟨some 127, some (119, false), .mv (.t 8)⟩,
                          ⟨some 128, some (119, false), .idxS 1 (.t 126) (.t 127)⟩,
                          ⟨some 129, some (119, false), .load false 1 (.t 128)⟩,
                          ⟨some 130, some (119, false), .bin .neq (.t 124) (.t 129)⟩,
                          ⟨some 131, none, .pick (.t 119) (.k (.bool true)) (.t 130)⟩,
                          ⟨some 132, none, .mv (.t 131)⟩,
                          ⟨some 133, some (132, false), .fldA 7 (.t 2)⟩,
                          ⟨some 134, some (132, false), .load false 1 (.t 133)⟩,
                          ⟨some 135, some (132, false), .mv (.t 8)⟩,
                          ⟨some 136, some (132, false), .idxS 1 (.t 134) (.t 135)⟩,
                          ⟨some 137, some (132, false), .load false 1 (.t 136)⟩,
                          ⟨some 138, some (132, false), .fldA 7 (.t 3)⟩,
                          ⟨some 139, some (132, false), .load false 1 (.t 138)⟩,
                          ⟨some 140, some (132, false), .mv (.t 8)⟩,
                          ⟨some 141, some (132, false), .idxS 1 (.t 139) (.t 140)⟩,
                          ⟨some 142, some (132, false), .load false 1 (.t 141)⟩,
                          ⟨some 143, some (132, false), .bin .neq (.t 137) (.t 142)⟩,
                          ⟨some 144, none, .pick (.t 132) (.k (.bool true)) (.t 143)⟩])
                        (.keep [2, 3, 4, 5, 32, 33, 144]
                         (.cond (.t 144)
                          (.ops [⟨some 145, none, .mv (.t 4)⟩,
                            ⟨some 146, none, .bin .add (.t 145) (.k (.int .i64 1))⟩,
                            ⟨some 4, none, .mv (.t 146)⟩])
                          .skip))))))))))
                (.keep [2, 3, 4, 5, 32, 33]
                 (.ops [⟨some 147, none, .bin .add (.t 33) (.k (.int .i64 1))⟩,
                   ⟨some 33, none, .mv (.t 147)⟩]))))))))))
        (.keep [4, 5]
         (.seq
          (.draw [0, 0, 1, 7, 15] [[4], [5], [148], [5, 149], []] [⟨some 148, none, .mv (.t 4)⟩,
            ⟨some 149, none, .load false 1 (.t 5)⟩,
            ⟨some 4, none, .mv (.t 148)⟩,
            ⟨none, none, .store 1 (.t 5) (.t 149)⟩,
            ⟨some 6, none, .mv (.k (.int .i64 0))⟩])
          (.keep [4, 5, 6]
           .ret)))))))))) }
structure N123 (R : Env) : Prop where
  o123 : R.Fn 123 c123
  n136 : N136 R
  n148 : N148 R
/-- umbra.over.Stack -/
def c127 : IFn := { np := 1, rs := [.cell 2 true 8, .t 3], body :=
 (.seq
  (.ops [⟨some 2, none, .alloc 16 [.int .i64 0, .int .i64 0, .nils, .nils, .nils, .nils, .nils, .nils]⟩,
    ⟨some 3, none, .mv (.k (.int .i64 0))⟩])
  (.seq
   (.seq
    (.ops [⟨some 7, none, .mv (.t 0)⟩,
      ⟨some 8, none, .lenS (.t 7)⟩])
    (.block 0
     (.seq
      (.ops [⟨some 10, none, .bin .eql (.t 8) (.k (.int .i64 0))⟩,
        ⟨some 9, none, .mv (.t 10)⟩])
      (.cond (.t 9)
       (.seq
        (.ops [⟨some 11, none, .build [.int .i64 0, .int .i64 0, .nils, .nils, .nils, .nils, .nils, .nils] []⟩,
          ⟨none, none, .store 8 (.t 2) (.t 11)⟩,
          ⟨some 3, none, .mv (.k (.int .i64 2))⟩])
        .ret)
       (.seq
        (.ops [⟨some 13, none, .bin .eql (.t 8) (.k (.int .i64 1))⟩,
          ⟨some 12, none, .mv (.t 13)⟩])
        (.cond (.t 12)
         (.seq
          (.seq
           (.ops [⟨some 14, none, .mv (.t 0)⟩,
             ⟨some 15, none, .idxS 8 (.t 14) (.k (.int .i64 0))⟩,
             ⟨some 16, none, .load true 8 (.t 15)⟩,
             ⟨some 17, none, .bslice 16 8 1 [.int .i64 0, .int .i64 0, .nils, .nils, .nils, .nils, .nils, .nils] [(0, .t 16)]⟩,
             ⟨some 18, none, .call 136 [.t 17]⟩,
             ⟨some 4, none, .mv (.t 18)⟩])
           (.keep [0, 2, 4]
            (.seq
             (.ops [⟨some 19, none, .mv (.t 4)⟩,
               ⟨some 20, none, .bin .neq (.t 19) (.k (.int .i64 0))⟩])
             (.cond (.t 20)
              (.seq
               (.ops [⟨some 21, none, .build [.int .i64 0, .int .i64 0, .nils, .nils, .nils, .nils, .nils, .nils] []⟩,
                 ⟨some 22, none, .mv (.t 4)⟩,
                 ⟨none, none, .store 8 (.t 2) (.t 21)⟩,
                 ⟨some 3, none, .mv (.t 22)⟩])
               .ret)
              .skip))))
          (.keep [0, 2]
           (.seq
            (.ops [⟨some 23, none, .mv (.t 0)⟩,
              ⟨some 24, none, .idxS 8 (.t 23) (.k (.int .i64 0))⟩,
              ⟨some 25, none, .load true 8 (.t 24)⟩,
              ⟨some 26, none, .call 143 [.t 25]⟩,
              ⟨none, none, .store 8 (.t 2) (.t 26)⟩,
              ⟨some 3, none, .mv (.k (.int .i64 0))⟩])
            (.keep [2, 3]
             .ret))))
         .skip))))))
   (.keep [0, 2]
    (.seq
     (.ops [⟨some 28, none, .mv (.t 0)⟩,
       ⟨some 29, none, .slcS 16 8 (.t 28) (some (.k (.int .i64 1))) none none⟩,
       ⟨some 30, none, .call 127 [.t 29]⟩,
       ⟨some 27, none, .mv (.t 30)⟩,
       ⟨some 31, none, .ext (.t 27) 0⟩,
       ⟨some 32, none, .ext (.t 27) 1⟩,
       ⟨some 5, none, .alloc 16 [.int .i64 0, .int .i64 0, .nils, .nils, .nils, .nils, .nils, .nils]⟩,
       ⟨none, none, .store 8 (.t 5) (.t 31)⟩,
       ⟨some 6, none, .mv (.t 32)⟩])
     (.keep [0, 2, 5, 6]
      (.seq
       (.seq
        (.ops [⟨some 33, none, .mv (.t 6)⟩,
          ⟨some 34, none, .bin .neq (.t 33) (.k (.int .i64 0))⟩])
        (.cond (.t 34)
         (.seq
          (.ops [⟨some 35, none, .build [.int .i64 0, .int .i64 0, .nils, .nils, .nils, .nils, .nils, .nils] []⟩,
            ⟨some 36, none, .mv (.t 6)⟩,
            ⟨none, none, .store 8 (.t 2) (.t 35)⟩,
            ⟨some 3, none, .mv (.t 36)⟩])
          .ret)
         .skip))
       (.keep [0, 2, 5]
        (.seq
         (.draw [0, 1, 3, 0, 15, 31, 31, 127, 255] [[0], [37], [38], [5], [39, 40], [41], [41], [2, 42], [43]] [⟨some 37, none, .mv (.t 0)⟩,
           ⟨some 38, none, .idxS 8 (.t 37) (.k (.int .i64 0))⟩,
           ⟨some 39, none, .load true 8 (.t 38)⟩,
           ⟨some 40, none, .load true 8 (.t 5)⟩,
           ⟨some 41, none, .call 119 [.t 39, .t 40]⟩,
           ⟨some 42, none, .ext (.t 41) 0⟩,
           ⟨some 43, none, .ext (.t 41) 1⟩,
           ⟨none, none, .store 8 (.t 2) (.t 42)⟩,
           ⟨some 3, none, .mv (.t 43)⟩])
         (.keep [2, 3]
          .ret))))))))) }
structure N127 (R : Env) : Prop where
  o127 : R.Fn 127 c127
  n119 : N119 R
  n136 : N136 R
  n143 : N143 R
/-- umbra.over.Clear -/
def c129 : IFn := { np := 2, rs := [.cell 4 true 8, .t 5], body :=
 (.seq
  (.ops [⟨some 4, none, .alloc 16 [.int .i64 0, .int .i64 0, .nils, .nils, .nils, .nils, .nils, .nils]⟩,
    ⟨some 5, none, .mv (.k (.int .i64 0))⟩])
  (.seq
   (.seq
    (.ops [⟨some 6, none, .mv (.t 0)⟩,
      ⟨some 7, none, .mv (.t 1)⟩,
      ⟨some 8, none, .mm false [.t 6, .t 7]⟩,
      ⟨some 9, none, .bin .lss (.t 8) (.k (.int .i64 1))⟩,
      ⟨some 10, none, .mv (.t 9)⟩,
      ⟨some 11, some (10, false), .mv (.t 0)⟩,
      ⟨some 12, some (10, false), .mv (.t 1)⟩,
      ⟨some 13, some (10, false), .mm true [.t 11, .t 12]⟩,
      ⟨some 14, some (10, false), .bin .gtr (.t 13) (.k (.int .i64 64))⟩,
      ⟨some 15, none, .pick (.t 10) (.k (.bool true)) (.t 14)⟩])
    (.keep [0, 1, 4, 15]
     (.cond (.t 15)
      (.seq
       (.ops [⟨some 16, none, .build [.int .i64 0, .int .i64 0, .nils, .nils, .nils, .nils, .nils, .nils] []⟩,
         ⟨none, none, .store 8 (.t 4) (.t 16)⟩,
         ⟨some 5, none, .mv (.k (.int .i64 2))⟩])
       .ret)
      .skip)))
   (.keep [0, 1, 4]
    (.seq
     (.ops [⟨some 17, none, .mv (.t 0)⟩,
       ⟨some 18, none, .mv (.t 1)⟩,
       ⟨some 19, none, .call 138 [.t 17, .t 18]⟩,
       ⟨none, none, .store 8 (.t 4) (.t 19)⟩,
       ⟨some 5, none, .mv (.k (.int .i64 0))⟩])
     (.keep [4, 5]
      .ret))))) }
structure N129 (R : Env) : Prop where
  o129 : R.Fn 129 c129
  n138 : N138 R
end Go.UM

/- The resolved code of package umbralaw30, function by function; numbers are those of the register, the same for all programs. -/

namespace Go.UM
open Go.AM
/-- umbra.umbralaw30.Few -/
def c135 : IFn := { np := 1, rs := [.cell 2 true 8], body :=
 (.seq
  (.ops [⟨some 1, none, .box 16 (.t 0)⟩,
    ⟨some 2, none, .alloc 16 [.int .i64 0, .int .i64 0, .nils, .nils, .nils, .nils, .nils, .nils]⟩])
  (.seq
   (.draw [0, 1, 0, 4, 12, 28, 63, 0, 128, 0, 512, 1536, 3584, 8064, 2047, 18431, 65535, 131071] [[1], [3], [1], [5], [6], [7], [4, 8], [1], [10], [1], [12], [13], [14], [11, 15], [1], [17, 9], [1], [18, 16]] [⟨some 3, none, .fldA 2 (.t 1)⟩,
     ⟨some 4, none, .load false 1 (.t 3)⟩,
     ⟨some 5, none, .fldA 2 (.t 1)⟩,
     ⟨some 6, none, .load false 1 (.t 5)⟩,
     ⟨some 7, none, .lenS (.t 6)⟩,
     ⟨some 8, none, .mm false [.t 7, .k (.int .i64 20)]⟩,
     ⟨some 9, none, .slcS 13 3 (.t 4) none (some (.t 8)) none⟩,
     ⟨some 10, none, .fldA 5 (.t 1)⟩,
     ⟨some 11, none, .load false 1 (.t 10)⟩,
     ⟨some 12, none, .fldA 5 (.t 1)⟩,
     ⟨some 13, none, .load false 1 (.t 12)⟩,
     ⟨some 14, none, .lenS (.t 13)⟩,
     ⟨some 15, none, .mm false [.t 14, .k (.int .i64 20)]⟩,
     ⟨some 16, none, .slcS 13 3 (.t 11) none (some (.t 15)) none⟩,
     ⟨some 17, none, .fldA 2 (.t 1)⟩,
     ⟨none, none, .store 1 (.t 17) (.t 9)⟩,
     ⟨some 18, none, .fldA 5 (.t 1)⟩,
     ⟨none, none, .store 1 (.t 18) (.t 16)⟩])
   (.keep [1, 2]
    (.seq
     (.draw [0, 1, 0, 4, 12, 28, 63, 0, 128, 0, 512, 1536, 3584, 8064, 2047, 18431, 65535, 131071] [[1], [19], [1], [21], [22], [23], [20, 24], [1], [26], [1], [28], [29], [30], [27, 31], [1], [33, 25], [1], [34, 32]] [⟨some 19, none, .fldA 3 (.t 1)⟩,
       ⟨some 20, none, .load false 1 (.t 19)⟩,
       ⟨some 21, none, .fldA 3 (.t 1)⟩,
       ⟨some 22, none, .load false 1 (.t 21)⟩,
       ⟨some 23, none, .lenS (.t 22)⟩,
       ⟨some 24, none, .mm false [.t 23, .k (.int .i64 20)]⟩,
       ⟨some 25, none, .slcS 10 1 (.t 20) none (some (.t 24)) none⟩,
       ⟨some 26, none, .fldA 4 (.t 1)⟩,
       ⟨some 27, none, .load false 1 (.t 26)⟩,
       ⟨some 28, none, .fldA 4 (.t 1)⟩,
       ⟨some 29, none, .load false 1 (.t 28)⟩,
       ⟨some 30, none, .lenS (.t 29)⟩,
       ⟨some 31, none, .mm false [.t 30, .k (.int .i64 20)]⟩,
       ⟨some 32, none, .slcS 10 1 (.t 27) none (some (.t 31)) none⟩,
       ⟨some 33, none, .fldA 3 (.t 1)⟩,
       ⟨none, none, .store 1 (.t 33) (.t 25)⟩,
       ⟨some 34, none, .fldA 4 (.t 1)⟩,
       ⟨none, none, .store 1 (.t 34) (.t 32)⟩])
     (.keep [1, 2]
      (.seq
       (.draw [0, 1, 0, 4, 12, 28, 63, 0, 128, 0, 512, 1536, 3584, 8064, 2047, 18431, 65535, 131071] [[1], [35], [1], [37], [38], [39], [36, 40], [1], [42], [1], [44], [45], [46], [43, 47], [1], [49, 41], [1], [50, 48]] [⟨some 35, none, .fldA 6 (.t 1)⟩,
         ⟨some 36, none, .load false 1 (.t 35)⟩,
         ⟨some 37, none, .fldA 6 (.t 1)⟩,
         ⟨some 38, none, .load false 1 (.t 37)⟩,
         ⟨some 39, none, .lenS (.t 38)⟩,
         ⟨some 40, none, .mm false [.t 39, .k (.int .i64 20)]⟩,
         ⟨some 41, none, .slcS 10 1 (.t 36) none (some (.t 40)) none⟩,
         ⟨some 42, none, .fldA 7 (.t 1)⟩,
         ⟨some 43, none, .load false 1 (.t 42)⟩,
         ⟨some 44, none, .fldA 7 (.t 1)⟩,
         ⟨some 45, none, .load false 1 (.t 44)⟩,
         ⟨some 46, none, .lenS (.t 45)⟩,
         ⟨some 47, none, .mm false [.t 46, .k (.int .i64 20)]⟩,
         ⟨some 48, none, .slcS 10 1 (.t 43) none (some (.t 47)) none⟩,
         ⟨some 49, none, .fldA 6 (.t 1)⟩,
         ⟨none, none, .store 1 (.t 49) (.t 41)⟩,
         ⟨some 50, none, .fldA 7 (.t 1)⟩,
         ⟨none, none, .store 1 (.t 50) (.t 48)⟩])
       (.keep [1, 2]
        (.seq
         (.ops [⟨some 51, none, .load true 8 (.t 1)⟩,
           ⟨none, none, .store 8 (.t 2) (.t 51)⟩])
         .ret)))))))) }
structure N135 (R : Env) : Prop where
  o135 : R.Fn 135 c135
end Go.UM

/- The resolved code of package umbraref29, function by function; numbers are those of the register, the same for all programs. -/

namespace Go.UM
open Go.AM
/-- umbra.umbraref29.threes -/
def c144 : IFn := { np := 2, rs := [.t 4], body :=
 (.seq
  (.ops [⟨some 4, none, .mv (.k (.bool false))⟩])
  (.seq
   (.seq
    (.ops [⟨some 6, none, .mv (.t 0)⟩,
      ⟨some 7, none, .lenS (.t 6)⟩,
      ⟨some 8, none, .mv (.t 1)⟩,
      ⟨some 9, none, .lenS (.t 8)⟩,
      ⟨some 10, none, .bin .neq (.t 7) (.t 9)⟩])
    (.keep [0, 1, 10]
     (.cond (.t 10)
      (.seq
       (.ops [⟨some 4, none, .mv (.k (.bool false))⟩])
       .ret)
      .skip)))
   (.keep [0, 1]
    (.seq
     (.seq
      (.ops [⟨some 5, none, .mv (.k (.int .i64 0))⟩])
      (.keep [0, 1, 5]
       (.block 0
        (.loop
         (.seq
          (.seq
           (.ops [⟨some 11, none, .mv (.t 5)⟩,
             ⟨some 12, none, .mv (.t 0)⟩,
             ⟨some 13, none, .lenS (.t 12)⟩,
             ⟨some 14, none, .bin .lss (.t 11) (.t 13)⟩])
           (.cond (.t 14)
            .skip
            (.exit 0)))
          (.keep [0, 1, 5]
           (.seq
            (.block 1
             (.seq
              (.draw [0, 0, 3, 7, 0, 0, 48, 112, 255] [[0], [5], [17, 18], [19], [1], [5], [21, 22], [23], [20, 24]] [⟨some 17, none, .mv (.t 0)⟩,
                ⟨some 18, none, .mv (.t 5)⟩,
                ⟨some 19, none, .idxS 3 (.t 17) (.t 18)⟩,
                ⟨some 20, none, .load true 3 (.t 19)⟩,
                ⟨some 21, none, .mv (.t 1)⟩,
                ⟨some 22, none, .mv (.t 5)⟩,
                ⟨some 23, none, .idxS 3 (.t 21) (.t 22)⟩,
                ⟨some 24, none, .load true 3 (.t 23)⟩,
                ⟨some 25, none, .eqa true [.i, .i, .i] (.t 20) (.t 24)⟩])
              (.keep [0, 1, 5, 25]
               (.cond (.t 25)
                (.seq
                 (.ops [⟨some 4, none, .mv (.k (.bool false))⟩])
                 .ret)
                .skip))))
            (.keep [0, 1, 5]
             (.ops [⟨some 15, none, .mv (.t 5)⟩,
               ⟨some 16, none, .bin .add (.t 15) (.k (.int .i64 1))⟩,
               ⟨some 5, none, .mv (.t 16)⟩])))))))))
     (.keep []
      (.seq
       (.ops [⟨some 4, none, .mv (.k (.bool true))⟩])
       .ret)))))) }
structure N144 (R : Env) : Prop where
  o144 : R.Fn 144 c144
/-- umbra.umbraref29.Ints -/
def c145 : IFn := { np := 2, rs := [.t 4], body :=
 (.seq
  (.ops [⟨some 4, none, .mv (.k (.bool false))⟩])
  (.seq
   (.seq
    (.ops [⟨some 6, none, .mv (.t 0)⟩,
      ⟨some 7, none, .lenS (.t 6)⟩,
      ⟨some 8, none, .mv (.t 1)⟩,
      ⟨some 9, none, .lenS (.t 8)⟩,
      ⟨some 10, none, .bin .neq (.t 7) (.t 9)⟩])
    (.keep [0, 1, 10]
     (.cond (.t 10)
      (.seq
       (.ops [⟨some 4, none, .mv (.k (.bool false))⟩])
       .ret)
      .skip)))
   (.keep [0, 1]
    (.seq
     (.seq
      (.ops [⟨some 5, none, .mv (.k (.int .i64 0))⟩])
      (.keep [0, 1, 5]
       (.block 0
        (.loop
         (.seq
          (.seq
           (.ops [⟨some 11, none, .mv (.t 5)⟩,
             ⟨some 12, none, .mv (.t 0)⟩,
             ⟨some 13, none, .lenS (.t 12)⟩,
             ⟨some 14, none, .bin .lss (.t 11) (.t 13)⟩])
           (.cond (.t 14)
            .skip
            (.exit 0)))
          (.keep [0, 1, 5]
           (.seq
            (.block 1
             (.seq
              (.draw [0, 0, 3, 7, 0, 0, 48, 112, 255] [[0], [5], [17, 18], [19], [1], [5], [21, 22], [23], [20, 24]] [⟨some 17, none, .mv (.t 0)⟩,
                ⟨some 18, none, .mv (.t 5)⟩,
                ⟨some 19, none, .idxS 1 (.t 17) (.t 18)⟩,
                ⟨some 20, none, .load false 1 (.t 19)⟩,
                ⟨some 21, none, .mv (.t 1)⟩,
                ⟨some 22, none, .mv (.t 5)⟩,
                ⟨some 23, none, .idxS 1 (.t 21) (.t 22)⟩,
                ⟨some 24, none, .load false 1 (.t 23)⟩,
                ⟨some 25, none, .bin .neq (.t 20) (.t 24)⟩])
              (.keep [0, 1, 5, 25]
               (.cond (.t 25)
                (.seq
                 (.ops [⟨some 4, none, .mv (.k (.bool false))⟩])
                 .ret)
                .skip))))
            (.keep [0, 1, 5]
             (.ops [⟨some 15, none, .mv (.t 5)⟩,
               ⟨some 16, none, .bin .add (.t 15) (.k (.int .i64 1))⟩,
               ⟨some 5, none, .mv (.t 16)⟩])))))))))
     (.keep []
      (.seq
       (.ops [⟨some 4, none, .mv (.k (.bool true))⟩])
       .ret)))))) }
structure N145 (R : Env) : Prop where
  o145 : R.Fn 145 c145
/-- umbra.umbraref29.Same -/
def c117 : IFn := { np := 2, rs := [.t 4], body :=
 (.seq
  (.ops [⟨some 2, none, .box 16 (.t 0)⟩,
    ⟨some 3, none, .box 16 (.t 1)⟩,
    ⟨some 4, none, .mv (.k (.bool false))⟩])
  (.seq
   (.ops [⟨some 5, none, .fldA 0 (.t 2)⟩,
     ⟨some 6, none, .load false 1 (.t 5)⟩,
     ⟨some 7, none, .fldA 0 (.t 3)⟩,
     ⟨some 8, none, .load false 1 (.t 7)⟩,
     ⟨some 9, none, .bin .eql (.t 6) (.t 8)⟩,
     ⟨some 10, none, .mv (.t 9)⟩,
     ⟨some 11, some (10, true), .fldA 1 (.t 2)⟩,
     ⟨some 12, some (10, true), .load false 1 (.t 11)⟩,
     ⟨some 13, some (10, true), .fldA 1 (.t 3)⟩,
     ⟨some 14, some (10, true), .load false 1 (.t 13)⟩,
     ⟨some 15, some (10, true), .bin .eql (.t 12) (.t 14)⟩,
     ⟨some 16, none, .pick (.t 10) (.t 15) (.k (.bool false))⟩,
     ⟨some 17, none, .mv (.t 16)⟩,
     ⟨some 18, some (17, true), .fldA 2 (.t 2)⟩,
     ⟨some 19, some (17, true), .load false 1 (.t 18)⟩,
     ⟨some 20, some (17, true), .fldA 2 (.t 3)⟩,
     ⟨some 21, some (17, true), .load false 1 (.t 20)⟩,
     ⟨some 22, some (17, true), .call 144 [.t 19, .t 21]⟩,
     ⟨some 23, none, .pick (.t 17) (.t 22) (.k (.bool false))⟩,
     ⟨some 24, none, .mv (.t 23)⟩,
     ⟨some 25, some (24, true), .fldA 5 (.t 2)⟩,
     ⟨some 26, some (24, true), .load false 1 (.t 25)⟩,
     ⟨some 27, some (24, true), .fldA 5 (.t 3)⟩,
     ⟨some 28, some (24, true), .load false 1 (.t 27)⟩,
     ⟨some 29, some (24, true), .call 144 [.t 26, .t 28]⟩,
     ⟨some 30, none, .pick (.t 24) (.t 29) (.k (.bool false))⟩,
     ⟨some 31, none, .mv (.t 30)⟩,
     ⟨some 32, some (31, true), .fldA 3 (.t 2)⟩,
     ⟨some 33, some (31, true), .load false 1 (.t 32)⟩,
     ⟨some 34, some (31, true), .fldA 3 (.t 3)⟩,
     ⟨some 35, some (31, true), .load false 1 (.t 34)⟩,
     ⟨some 36, some (31, true), .call 145 [.t 33, .t 35]⟩,
     ⟨some 37, none, .pick (.t 31) (.t 36) (.k (.bool false))⟩,
     ⟨some 38, none, .mv (.t 37)⟩,
     ⟨some 39, some (38, true), .fldA 4 (.t 2)⟩,
     ⟨some 40, some (38, true), .load false 1 (.t 39)⟩,
     ⟨some 41, some (38, true), .fldA 4 (.t 3)⟩,
     ⟨some 42, some (38, true), .load false 1 (.t 41)⟩,
     ⟨some 43, some (38, true), .call 145 [.t 40, .t 42]⟩,
     ⟨some 44, none, .pick (.t 38) (.t 43) (.k (.bool false))⟩,
     ⟨some 45, none, .mv (.t 44)⟩,
     ⟨some 46, some (45, true), .fldA 6 (.t 2)⟩,
     ⟨some 47, some (45, true), .load false 1 (.t 46)⟩,
     ⟨some 48, some (45, true), .fldA 6 (.t 3)⟩,
     ⟨some 49, some (45, true), .load false 1 (.t 48)⟩,
     ⟨some 50, some (45, true), .call 145 [.t 47, .t 49]⟩,
     ⟨some 51, none, .pick (.t 45) (.t 50) (.k (.bool false))⟩,
     ⟨some 52, none, .mv (.t 51)⟩,
     ⟨some 53, some (52, true), .fldA 7 (.t 2)⟩,
     ⟨some 54, some (52, true), .load false 1 (.t 53)⟩,
     ⟨some 55, some (52, true), .fldA 7 (.t 3)⟩,
     ⟨some 56, some (52, true), .load false 1 (.t 55)⟩,
     ⟨some 57, some (52, true), .call 145 [.t 54, .t 56]⟩,
     ⟨some 58, none, .pick (.t 52) (.t 57) (.k (.bool false))⟩,
     ⟨some 4, none, .mv (.t 58)⟩])
   (.keep [4]
    .ret))) }
structure N117 (R : Env) : Prop where
  o117 : R.Fn 117 c117
  n144 : N144 R
  n145 : N145 R
end Go.UM

/- The resolved code of package umbraref30, function by function; numbers are those of the register, the same for all programs. -/

namespace Go.UM
open Go.AM
/-- umbra.umbraref30.flat -/
def c159 : IFn := { np := 1, rs := [.t 2], body :=
 (.seq
  (.ops [⟨some 2, none, .mv (.k (.nils))⟩])
  (.seq
   (.ops [⟨some 3, none, .mv (.k (.nils))⟩])
   (.seq
    (.seq
     (.ops [⟨some 4, none, .mv (.k (.int .i64 0))⟩])
     (.keep [0, 3, 4]
      (.block 0
       (.loop
        (.seq
         (.seq
          (.ops [⟨some 5, none, .mv (.t 4)⟩,
            ⟨some 6, none, .mv (.t 0)⟩,
            ⟨some 7, none, .lenS (.t 6)⟩,
            ⟨some 8, none, .bin .lss (.t 5) (.t 7)⟩])
          (.cond (.t 8)
           .skip
           (.exit 0)))
         (.keep [0, 3, 4]
          (.seq
           (.block 1
            (.draw [0, 0, 0, 6, 14, 30, 0, 0, 192, 448, 960, 0, 0, 6144, 14336, 30720, 65534, 131071, 262143] [[3], [0], [4], [12, 13], [14], [15], [0], [4], [17, 18], [19], [20], [0], [4], [22, 23], [24], [25], [16, 21, 26], [11, 27], [28]] [⟨some 11, none, .mv (.t 3)⟩,
              ⟨some 12, none, .mv (.t 0)⟩,
              ⟨some 13, none, .mv (.t 4)⟩,
              ⟨some 14, none, .idxS 3 (.t 12) (.t 13)⟩,
              ⟨some 15, none, .idxA 3 1 (.t 14) (.k (.int .i64 0))⟩,
              ⟨some 16, none, .load false 1 (.t 15)⟩,
              ⟨some 17, none, .mv (.t 0)⟩,
              ⟨some 18, none, .mv (.t 4)⟩,
              ⟨some 19, none, .idxS 3 (.t 17) (.t 18)⟩,
              ⟨some 20, none, .idxA 3 1 (.t 19) (.k (.int .i64 1))⟩,
              ⟨some 21, none, .load false 1 (.t 20)⟩,
              ⟨some 22, none, .mv (.t 0)⟩,
              ⟨some 23, none, .mv (.t 4)⟩,
              ⟨some 24, none, .idxS 3 (.t 22) (.t 23)⟩,
              ⟨some 25, none, .idxA 3 1 (.t 24) (.k (.int .i64 2))⟩,
              ⟨some 26, none, .load false 1 (.t 25)⟩,
              ⟨some 27, none, .bslice 10 1 3 [.int .i64 0] [(0, .t 16), (1, .t 21), (2, .t 26)]⟩,
              ⟨some 28, none, .app 10 1 (.t 11) (.t 27)⟩,
              ⟨some 3, none, .mv (.t 28)⟩]))
           (.keep [0, 3, 4]
            (.ops [⟨some 9, none, .mv (.t 4)⟩,
              ⟨some 10, none, .bin .add (.t 9) (.k (.int .i64 1))⟩,
              ⟨some 4, none, .mv (.t 10)⟩])))))))))
    (.keep [3]
     (.seq
      (.ops [⟨some 29, none, .mv (.t 3)⟩,
        ⟨some 2, none, .mv (.t 29)⟩])
      .ret))))) }
structure N159 (R : Env) : Prop where
  o159 : R.Fn 159 c159
/-- umbra.umbraref30.deeps -/
def c160 : IFn := { np := 0, rs := [.t 0], body :=
 (.seq
  (.ops [⟨some 0, none, .mv (.k (.nils))⟩])
  (.seq
   (.ops [⟨some 1, none, .bslice 10 1 6 [.int .i64 0] [(0, .k (.int .i64 3)), (1, .k (.int .i64 1)), (2, .k (.int .i64 1)), (3, .k (.int .i64 3)), (4, .k (.int .i64 1)), (5, .k (.int .i64 1))]⟩,
     ⟨some 0, none, .mv (.t 1)⟩])
   .ret)) }
structure N160 (R : Env) : Prop where
  o160 : R.Fn 160 c160
/-- umbra.umbraref30.names -/
def c161 : IFn := { np := 0, rs := [.t 0], body :=
 (.seq
  (.ops [⟨some 0, none, .mv (.k (.nils))⟩])
  (.seq
   (.ops [⟨some 1, none, .bslice 23 1 6 [.str []] [(0, .k (.str [66, 69, 65, 85, 84, 89])), (1, .k (.str [65, 76, 80, 72, 65])), (2, .k (.str [68, 69, 80, 84, 72])), (3, .k (.str [78, 79, 82, 77, 65, 76])), (4, .k (.str [65, 83, 83, 69, 84])), (5, .k (.str [76, 65, 66, 69, 76]))]⟩,
     ⟨some 0, none, .mv (.t 1)⟩])
   .ret)) }
structure N161 (R : Env) : Prop where
  o161 : R.Fn 161 c161
/-- umbra.umbraref30.Check -/
def c162 : IFn := { np := 1, rs := [.t 2], body :=
 (.seq
  (.ops [⟨some 1, none, .box 20 (.t 0)⟩,
    ⟨some 2, none, .mv (.k (.int .i64 0))⟩])
  (.seq
   (.seq
    (.ops [⟨some 5, none, .fldA 0 (.t 1)⟩,
      ⟨some 6, none, .load false 1 (.t 5)⟩,
      ⟨some 7, none, .bin .lss (.t 6) (.k (.int .i64 1))⟩,
      ⟨some 8, none, .mv (.t 7)⟩,
      ⟨some 9, some (8, false), .fldA 0 (.t 1)⟩,
      ⟨some 10, some (8, false), .load false 1 (.t 9)⟩,
      ⟨some 11, some (8, false), .bin .gtr (.t 10) (.k (.int .i64 64))⟩,
      ⟨some 12, none, .pick (.t 8) (.k (.bool true)) (.t 11)⟩,
      ⟨some 13, none, .mv (.t 12)⟩,
      ⟨some 14, some (13, false), .fldA 1 (.t 1)⟩,
      ⟨some 15, some (13, false), .load false 1 (.t 14)⟩,
      ⟨some 16, some (13, false), .bin .lss (.t 15) (.k (.int .i64 1))⟩,
      ⟨some 17, none, .pick (.t 13) (.k (.bool true)) (.t 16)⟩,
      ⟨some 18, none, .mv (.t 17)⟩,
      ⟨some 19, some (18, false), .fldA 1 (.t 1)⟩,
      ⟨some 20, some (18, false), .load false 1 (.t 19)⟩,
      ⟨some 21, some (18, false), .bin .gtr (.t 20) (.k (.int .i64 64))⟩,
      ⟨some 22, none, .pick (.t 18) (.k (.bool true)) (.t 21)⟩,
      ⟨some 23, none, .mv (.t 22)⟩,
      ⟨some 24, some (23, false), .fldA 2 (.t 1)⟩,
      ⟨some 25, some (23, false), .load false 1 (.t 24)⟩,
      ⟨some 26, some (23, false), .bin .lss (.t 25) (.k (.int .i64 1))⟩,
      ⟨some 27, none, .pick (.t 23) (.k (.bool true)) (.t 26)⟩,
      ⟨some 28, none, .mv (.t 27)⟩,
      ⟨some 29, some (28, false), .fldA 2 (.t 1)⟩,
      ⟨some 30, some (28, false), .load false 1 (.t 29)⟩,
      ⟨some 31, some (28, false), .bin .gtr (.t 30) (.k (.int .i64 4))⟩,
      ⟨some 32, none, .pick (.t 28) (.k (.bool true)) (.t 31)⟩])
    (.keep [1, 32]
     (.cond (.t 32)
      (.seq
       (.ops [⟨some 2, none, .mv (.k (.int .i64 2))⟩])
       .ret)
      .skip)))
   (.keep [1]
    (.seq
     (.seq
      (.ops [⟨some 33, none, .fldA 3 (.t 1)⟩,
        ⟨some 34, none, .load false 1 (.t 33)⟩,
        ⟨some 35, none, .lenT (.t 34)⟩,
        ⟨some 36, none, .bin .lss (.t 35) (.k (.int .i64 1))⟩,
        ⟨some 37, none, .mv (.t 36)⟩,
        ⟨some 38, some (37, false), .fldA 3 (.t 1)⟩,
        ⟨some 39, some (37, false), .load false 1 (.t 38)⟩,
        ⟨some 40, some (37, false), .lenT (.t 39)⟩,
        ⟨some 41, some (37, false), .bin .gtr (.t 40) (.k (.int .i64 16))⟩,
        ⟨some 42, none, .pick (.t 37) (.k (.bool true)) (.t 41)⟩,
        ⟨some 43, none, .mv (.t 42)⟩,
        ⟨some 44, some (43, false), .fldA 4 (.t 1)⟩,
        ⟨some 45, some (43, false), .load false 1 (.t 44)⟩,
        ⟨some 46, some (43, false), .lenS (.t 45)⟩,
        ⟨some 47, some (43, false), .fldA 0 (.t 1)⟩,
        ⟨some 48, some (43, false), .load false 1 (.t 47)⟩,
        ⟨some 49, some (43, false), .fldA 1 (.t 1)⟩,
        ⟨some 50, some (43, false), .load false 1 (.t 49)⟩,
        ⟨some 51, some (43, false), .bin .mul (.t 48) (.t 50)⟩,
        ⟨some 52, some (43, false), .fldA 2 (.t 1)⟩,
        ⟨some 53, some (43, false), .load false 1 (.t 52)⟩,
        ⟨some 54, some (43, false), .bin .mul (.t 51) (.t 53)⟩,
        ⟨some 55, some (43, false), .bin .neq (.t 46) (.t 54)⟩,
        ⟨some 56, none, .pick (.t 43) (.k (.bool true)) (.t 55)⟩])
      (.keep [1, 56]
       (.cond (.t 56)
        (.seq
         (.ops [⟨some 2, none, .mv (.k (.int .i64 5))⟩])
         .ret)
        .skip)))
     (.keep [1]
      (.seq
       (.seq
        (.ops [⟨some 3, none, .mv (.k (.int .i64 0))⟩])
        (.keep [1, 3]
         (.block 0
          (.loop
           (.seq
            (.seq
             (.ops [⟨some 57, none, .mv (.t 3)⟩,
               ⟨some 58, none, .fldA 3 (.t 1)⟩,
               ⟨some 59, none, .load false 1 (.t 58)⟩,
               ⟨some 60, none, .lenT (.t 59)⟩,
               ⟨some 61, none, .bin .lss (.t 57) (.t 60)⟩])
             (.keep [1, 3, 61]
              (.cond (.t 61)
               .skip
               (.exit 0))))
            (.keep [1, 3]
             (.seq
              (.block 1
               (.seq
                (.ops [⟨some 64, none, .fldA 3 (.t 1)⟩,
                  ⟨some 65, none, .load false 1 (.t 64)⟩,
                  ⟨some 66, none, .mv (.t 3)⟩,
                  ⟨some 67, none, .idxT (.t 65) (.t 66)⟩,
                  ⟨some 68, none, .bin .lss (.t 67) (.k (.int .u8 65))⟩,
                  ⟨some 69, none, .mv (.t 68)⟩,
                  ⟨some 70, some (69, false), .fldA 3 (.t 1)⟩,
                  ⟨some 71, some (69, false), .load false 1 (.t 70)⟩,
                  ⟨some 72, some (69, false), .mv (.t 3)⟩,
                  ⟨some 73, some (69, false), .idxT (.t 71) (.t 72)⟩,
                  ⟨some 74, some (69, false), .bin .gtr (.t 73) (.k (.int .u8 90))⟩,
                  ⟨some 75, none, .pick (.t 69) (.k (.bool true)) (.t 74)⟩])
                (.keep [1, 3, 75]
                 (.cond (.t 75)
                  (.seq
                   (.ops [⟨some 2, none, .mv (.k (.int .i64 5))⟩])
                   .ret)
                  .skip))))
              (.keep [1, 3]
               (.ops [⟨some 62, none, .mv (.t 3)⟩,
                 ⟨some 63, none, .bin .add (.t 62) (.k (.int .i64 1))⟩,
                 ⟨some 3, none, .mv (.t 63)⟩])))))))))
       (.keep [1]
        (.seq
         (.seq
          (.ops [⟨some 4, none, .mv (.k (.int .i64 0))⟩])
          (.keep [1, 4]
           (.block 2
            (.loop
             (.seq
              (.seq
               (.ops [⟨some 76, none, .mv (.t 4)⟩,
                 ⟨some 77, none, .fldA 4 (.t 1)⟩,
                 ⟨some 78, none, .load false 1 (.t 77)⟩,
                 ⟨some 79, none, .lenS (.t 78)⟩,
                 ⟨some 80, none, .bin .lss (.t 76) (.t 79)⟩])
               (.keep [1, 4, 80]
                (.cond (.t 80)
                 .skip
                 (.exit 2))))
              (.keep [1, 4]
               (.seq
                (.block 3
                 (.seq
                  (.ops [⟨some 83, none, .fldA 4 (.t 1)⟩,
                    ⟨some 84, none, .load false 1 (.t 83)⟩,
                    ⟨some 85, none, .mv (.t 4)⟩,
                    ⟨some 86, none, .idxS 1 (.t 84) (.t 85)⟩,
                    ⟨some 87, none, .load false 1 (.t 86)⟩,
                    ⟨some 88, none, .bin .lss (.t 87) (.k (.int .i64 0))⟩,
                    ⟨some 89, none, .mv (.t 88)⟩,
                    ⟨some 90, some (89, false), .fldA 4 (.t 1)⟩,
                    ⟨some 91, some (89, false), .load false 1 (.t 90)⟩,
                    ⟨some 92, some (89, false), .mv (.t 4)⟩,
                    ⟨some 93, some (89, false), .idxS 1 (.t 91) (.t 92)⟩,
                    ⟨some 94, some (89, false), .load false 1 (.t 93)⟩,
                    ⟨some 95, some (89, false), .bin .gtr (.t 94) (.k (.int .i64 65535))⟩,
                    ⟨some 96, none, .pick (.t 89) (.k (.bool true)) (.t 95)⟩])
                  (.keep [1, 4, 96]
                   (.cond (.t 96)
                    (.seq
                     (.ops [⟨some 2, none, .mv (.k (.int .i64 5))⟩])
                     .ret)
                    .skip))))
                (.keep [1, 4]
                 (.ops [⟨some 81, none, .mv (.t 4)⟩,
                   ⟨some 82, none, .bin .add (.t 81) (.k (.int .i64 1))⟩,
                   ⟨some 4, none, .mv (.t 82)⟩])))))))))
         (.keep []
          (.seq
           (.ops [⟨some 2, none, .mv (.k (.int .i64 0))⟩])
           .ret)))))))))) }
structure N162 (R : Env) : Prop where
  o162 : R.Fn 162 c162
/-- umbra.umbraref30.Planes -/
def c155 : IFn := { np := 1, rs := [.t 2, .t 3], body :=
 (.seq
  (.ops [⟨some 1, none, .box 16 (.t 0)⟩,
    ⟨some 2, none, .mv (.k (.nils))⟩,
    ⟨some 3, none, .mv (.k (.int .i64 0))⟩])
  (.seq
   (.draw [0, 1, 3, 0, 8, 0, 32, 0, 128, 391, 0, 1024, 0, 4096, 16383, 32767] [[1], [9], [10], [1], [12], [1], [14], [1], [16], [17], [1], [19], [1], [21], [11, 13, 15, 18, 20, 22], [23]] [⟨some 9, none, .fldA 2 (.t 1)⟩,
     ⟨some 10, none, .load false 1 (.t 9)⟩,
     ⟨some 11, none, .call 159 [.t 10]⟩,
     ⟨some 12, none, .fldA 3 (.t 1)⟩,
     ⟨some 13, none, .load false 1 (.t 12)⟩,
     ⟨some 14, none, .fldA 4 (.t 1)⟩,
     ⟨some 15, none, .load false 1 (.t 14)⟩,
     ⟨some 16, none, .fldA 5 (.t 1)⟩,
     ⟨some 17, none, .load false 1 (.t 16)⟩,
     ⟨some 18, none, .call 159 [.t 17]⟩,
     ⟨some 19, none, .fldA 6 (.t 1)⟩,
     ⟨some 20, none, .load false 1 (.t 19)⟩,
     ⟨some 21, none, .fldA 7 (.t 1)⟩,
     ⟨some 22, none, .load false 1 (.t 21)⟩,
     ⟨some 23, none, .bslice 22 1 6 [.nils] [(0, .t 11), (1, .t 13), (2, .t 15), (3, .t 18), (4, .t 20), (5, .t 22)]⟩,
     ⟨some 4, none, .mv (.t 23)⟩])
   (.keep [1, 4]
    (.seq
     (.ops [⟨some 5, none, .mv (.k (.nils))⟩])
     (.seq
      (.seq
       (.ops [⟨some 6, none, .mv (.k (.int .i64 0))⟩])
       (.keep [1, 4, 5, 6]
        (.block 0
         (.loop
          (.seq
           (.seq
            (.ops [⟨some 24, none, .mv (.t 6)⟩,
              ⟨some 25, none, .bin .lss (.t 24) (.k (.int .i64 6))⟩])
            (.cond (.t 25)
             .skip
             (.exit 0)))
           (.keep [1, 4, 5, 6]
            (.seq
             (.block 1
              (.seq
               (.draw [0, 1, 0, 4, 0, 0, 48, 112, 16, 0, 784, 1808, 0, 0, 12288, 28672, 65535, 0, 262143] [[1], [28], [1], [30], [], [6], [32, 33], [34], [], [6], [36, 37], [38], [4], [6], [40, 41], [42], [29, 31, 35, 39, 43], [], [7, 44]] [⟨some 28, none, .fldA 0 (.t 1)⟩,
                 ⟨some 29, none, .load false 1 (.t 28)⟩,
                 ⟨some 30, none, .fldA 1 (.t 1)⟩,
                 ⟨some 31, none, .load false 1 (.t 30)⟩,
                 ⟨some 32, none, .call 160 []⟩,
                 ⟨some 33, none, .mv (.t 6)⟩,
                 ⟨some 34, none, .idxS 1 (.t 32) (.t 33)⟩,
                 ⟨some 35, none, .load false 1 (.t 34)⟩,
                 ⟨some 36, none, .call 161 []⟩,
                 ⟨some 37, none, .mv (.t 6)⟩,
                 ⟨some 38, none, .idxS 1 (.t 36) (.t 37)⟩,
                 ⟨some 39, none, .load false 1 (.t 38)⟩,
                 ⟨some 40, none, .mv (.t 4)⟩,
                 ⟨some 41, none, .mv (.t 6)⟩,
                 ⟨some 42, none, .idxS 1 (.t 40) (.t 41)⟩,
                 ⟨some 43, none, .load false 1 (.t 42)⟩,
                 ⟨some 44, none, .build [.int .i64 0, .int .i64 0, .int .i64 0, .str [], .nils] [(0, 1, .t 29), (1, 1, .t 31), (2, 1, .t 35), (3, 1, .t 39), (4, 1, .t 43)]⟩,
                 ⟨some 7, none, .alloc 20 [.int .i64 0, .int .i64 0, .int .i64 0, .str [], .nils]⟩,
                 ⟨none, none, .store 5 (.t 7) (.t 44)⟩])
               (.keep [1, 4, 5, 6, 7]
                (.seq
                 (.seq
                  (.ops [⟨some 45, none, .load true 5 (.t 7)⟩,
                    ⟨some 46, none, .call 162 [.t 45]⟩,
                    ⟨some 8, none, .mv (.t 46)⟩])
                  (.seq
                   (.ops [⟨some 47, none, .mv (.t 8)⟩,
                     ⟨some 48, none, .bin .neq (.t 47) (.k (.int .i64 0))⟩])
                   (.cond (.t 48)
                    (.seq
                     (.ops [⟨some 49, none, .mv (.t 8)⟩,
                       ⟨some 2, none, .mv (.k (.nils))⟩,
                       ⟨some 3, none, .mv (.t 49)⟩])
                     .ret)
                    .skip)))
                 (.keep [1, 4, 5, 6, 7]
                  (.ops [⟨some 50, none, .mv (.t 5)⟩,
                    ⟨some 51, none, .load true 5 (.t 7)⟩,
                    ⟨some 52, none, .bslice 20 5 1 [.int .i64 0, .int .i64 0, .int .i64 0, .str [], .nils] [(0, .t 51)]⟩,
                    ⟨some 53, none, .app 20 5 (.t 50) (.t 52)⟩,
                    ⟨some 5, none, .mv (.t 53)⟩]))))))
             (.keep [1, 4, 5, 6]
              (.ops [⟨some 26, none, .mv (.t 6)⟩,
                ⟨some 27, none, .bin .add (.t 26) (.k (.int .i64 1))⟩,
                ⟨some 6, none, .mv (.t 27)⟩])))))))))
      (.keep [5]
       (.seq
        (.ops [⟨some 54, none, .mv (.t 5)⟩,
          ⟨some 2, none, .mv (.t 54)⟩,
          ⟨some 3, none, .mv (.k (.int .i64 0))⟩])
        .ret))))))) }
structure N155 (R : Env) : Prop where
  o155 : R.Fn 155 c155
  n159 : N159 R
  n160 : N160 R
  n161 : N161 R
  n162 : N162 R
end Go.UM

/- The resolved code of package umbraref38, function by function; numbers are those of the register, the same for all programs. -/

namespace Go.UM
open Go.AM
/-- umbra.umbraref38.Check -/
def c140 : IFn := { np := 1, rs := [.t 2], body :=
 (.seq
  (.ops [⟨some 1, none, .box 16 (.t 0)⟩,
    ⟨some 2, none, .mv (.k (.int .i64 0))⟩])
  (.seq
   (.ops [⟨some 6, none, .load true 8 (.t 1)⟩,
     ⟨some 7, none, .call 155 [.t 6]⟩,
     ⟨some 5, none, .mv (.t 7)⟩,
     ⟨some 8, none, .ext (.t 5) 0⟩,
     ⟨some 9, none, .ext (.t 5) 1⟩,
     ⟨some 3, none, .mv (.t 8)⟩,
     ⟨some 4, none, .mv (.t 9)⟩])
   (.keep [4]
    (.seq
     (.ops [⟨some 10, none, .mv (.t 4)⟩,
       ⟨some 2, none, .mv (.t 10)⟩])
     .ret)))) }
structure N140 (R : Env) : Prop where
  o140 : R.Fn 140 c140
  n155 : N155 R
/-- umbra.umbraref38.within -/
def c141 : IFn := { np := 5, rs := [.t 10], body :=
 (.seq
  (.ops [⟨some 5, none, .box 16 (.t 0)⟩,
    ⟨some 10, none, .mv (.k (.bool false))⟩])
  (.seq
   (.ops [⟨some 11, none, .mv (.t 1)⟩,
     ⟨some 12, none, .bin .geq (.t 11) (.k (.int .i64 0))⟩,
     ⟨some 13, none, .mv (.t 12)⟩,
     ⟨some 14, some (13, true), .mv (.t 2)⟩,
     ⟨some 15, some (13, true), .bin .geq (.t 14) (.k (.int .i64 0))⟩,
     ⟨some 16, none, .pick (.t 13) (.t 15) (.k (.bool false))⟩,
     ⟨some 17, none, .mv (.t 16)⟩,
     ⟨some 18, some (17, true), .mv (.t 3)⟩,
     ⟨some 19, some (17, true), .bin .geq (.t 18) (.k (.int .i64 1))⟩,
     ⟨some 20, none, .pick (.t 17) (.t 19) (.k (.bool false))⟩,
     ⟨some 21, none, .mv (.t 20)⟩,
     ⟨some 22, some (21, true), .mv (.t 4)⟩,
     ⟨some 23, some (21, true), .bin .geq (.t 22) (.k (.int .i64 1))⟩,
     ⟨some 24, none, .pick (.t 21) (.t 23) (.k (.bool false))⟩,
     ⟨some 25, none, .mv (.t 24)⟩,
     ⟨some 26, some (25, true), .mv (.t 3)⟩,
     ⟨some 27, some (25, true), .fldA 0 (.t 5)⟩,
     ⟨some 28, some (25, true), .load false 1 (.t 27)⟩,
     ⟨some 29, some (25, true), .bin .leq (.t 26) (.t 28)⟩,
     ⟨some 30, none, .pick (.t 25) (.t 29) (.k (.bool false))⟩,
     ⟨some 31, none, .mv (.t 30)⟩,
     ⟨some 32, some (31, true), .mv (.t 4)⟩,
     ⟨some 33, some (31, true), .fldA 1 (.t 5)⟩,
     ⟨some 34, some (31, true), .load false 1 (.t 33)⟩,
     ⟨some 35, some (31, true), .bin .leq (.t 32) (.t 34)⟩,
     ⟨some 36, none, .pick (.t 31) (.t 35) (.k (.bool false))⟩,
     ⟨some 37, none, .mv (.t 36)⟩,
     ⟨some 38, some (37, true), .mv (.t 1)⟩,
     ⟨some 39, some (37, true), .fldA 0 (.t 5)⟩,
     ⟨some 40, some (37, true), .load false 1 (.t 39)⟩,
     ⟨some 41, some (37, true), .mv (.t 3)⟩,
     ⟨some 42, some (37, true), .bin .sub (.t 40) (.t 41)⟩,
     ⟨some 43, some (37, true), .bin .leq (.t 38) (.t 42)⟩,
     ⟨some 44, none, .pick (.t 37) (.t 43) (.k (.bool false))⟩,
     ⟨some 45, none, .mv (.t 44)⟩,
     ⟨some 46, some (45, true), .mv (.t 2)⟩,
     ⟨some 47, some (45, true), .fldA 1 (.t 5)⟩,
     ⟨some 48, some (45, true), .load false 1 (.t 47)⟩,
     ⟨some 49, some (45, true), .mv (.t 4)⟩,
     ⟨some 50, some (45, true), .bin .sub (.t 48) (.t 49)⟩,
     ⟨some 51, some (45, true), .bin .leq (.t 46) (.t 50)⟩,
     ⟨some 52, none, .pick (.t 45) (.t 51) (.k (.bool false))⟩,
     ⟨some 10, none, .mv (.t 52)⟩])
   (.keep [10]
    .ret))) }
structure N141 (R : Env) : Prop where
  o141 : R.Fn 141 c141
/-- umbra.umbraref38.add -/
def c142 : IFn := { np := 3, rs := [.cell 6 true 8], body :=
 (.seq
  (.ops [⟨some 3, none, .box 16 (.t 0)⟩,
    ⟨some 4, none, .box 16 (.t 1)⟩,
    ⟨some 6, none, .alloc 16 [.int .i64 0, .int .i64 0, .nils, .nils, .nils, .nils, .nils, .nils]⟩])
  (.seq
   (.draw [0, 1, 0, 4, 0, 28, 60, 124, 255, 511, 1023] [[3], [7], [4], [9], [2], [10, 11], [12], [13], [8, 14], [3], [16, 15]] [⟨some 7, none, .fldA 2 (.t 3)⟩,
     ⟨some 8, none, .load false 1 (.t 7)⟩,
     ⟨some 9, none, .fldA 2 (.t 4)⟩,
     ⟨some 10, none, .load false 1 (.t 9)⟩,
     ⟨some 11, none, .mv (.t 2)⟩,
     ⟨some 12, none, .idxS 3 (.t 10) (.t 11)⟩,
     ⟨some 13, none, .load true 3 (.t 12)⟩,
     ⟨some 14, none, .bslice 13 3 1 [.int .i64 0, .int .i64 0, .int .i64 0] [(0, .t 13)]⟩,
     ⟨some 15, none, .app 13 3 (.t 8) (.t 14)⟩,
     ⟨some 16, none, .fldA 2 (.t 3)⟩,
     ⟨none, none, .store 1 (.t 16) (.t 15)⟩])
   (.keep [2, 3, 4, 6]
    (.seq
     (.draw [0, 1, 0, 4, 0, 28, 60, 124, 255, 511, 1023] [[3], [17], [4], [19], [2], [20, 21], [22], [23], [18, 24], [3], [26, 25]] [⟨some 17, none, .fldA 3 (.t 3)⟩,
       ⟨some 18, none, .load false 1 (.t 17)⟩,
       ⟨some 19, none, .fldA 3 (.t 4)⟩,
       ⟨some 20, none, .load false 1 (.t 19)⟩,
       ⟨some 21, none, .mv (.t 2)⟩,
       ⟨some 22, none, .idxS 1 (.t 20) (.t 21)⟩,
       ⟨some 23, none, .load false 1 (.t 22)⟩,
       ⟨some 24, none, .bslice 10 1 1 [.int .i64 0] [(0, .t 23)]⟩,
       ⟨some 25, none, .app 10 1 (.t 18) (.t 24)⟩,
       ⟨some 26, none, .fldA 3 (.t 3)⟩,
       ⟨none, none, .store 1 (.t 26) (.t 25)⟩])
     (.keep [2, 3, 4, 6]
      (.seq
       (.draw [0, 1, 0, 4, 0, 28, 60, 124, 255, 511, 1023] [[3], [27], [4], [29], [2], [30, 31], [32], [33], [28, 34], [3], [36, 35]] [⟨some 27, none, .fldA 4 (.t 3)⟩,
         ⟨some 28, none, .load false 1 (.t 27)⟩,
         ⟨some 29, none, .fldA 4 (.t 4)⟩,
         ⟨some 30, none, .load false 1 (.t 29)⟩,
         ⟨some 31, none, .mv (.t 2)⟩,
         ⟨some 32, none, .idxS 1 (.t 30) (.t 31)⟩,
         ⟨some 33, none, .load false 1 (.t 32)⟩,
         ⟨some 34, none, .bslice 10 1 1 [.int .i64 0] [(0, .t 33)]⟩,
         ⟨some 35, none, .app 10 1 (.t 28) (.t 34)⟩,
         ⟨some 36, none, .fldA 4 (.t 3)⟩,
         ⟨none, none, .store 1 (.t 36) (.t 35)⟩])
       (.keep [2, 3, 4, 6]
        (.seq
         (.draw [0, 1, 0, 4, 0, 28, 60, 124, 255, 511, 1023] [[3], [37], [4], [39], [2], [40, 41], [42], [43], [38, 44], [3], [46, 45]] [⟨some 37, none, .fldA 5 (.t 3)⟩,
           ⟨some 38, none, .load false 1 (.t 37)⟩,
           ⟨some 39, none, .fldA 5 (.t 4)⟩,
           ⟨some 40, none, .load false 1 (.t 39)⟩,
           ⟨some 41, none, .mv (.t 2)⟩,
           ⟨some 42, none, .idxS 3 (.t 40) (.t 41)⟩,
           ⟨some 43, none, .load true 3 (.t 42)⟩,
           ⟨some 44, none, .bslice 13 3 1 [.int .i64 0, .int .i64 0, .int .i64 0] [(0, .t 43)]⟩,
           ⟨some 45, none, .app 13 3 (.t 38) (.t 44)⟩,
           ⟨some 46, none, .fldA 5 (.t 3)⟩,
           ⟨none, none, .store 1 (.t 46) (.t 45)⟩])
         (.keep [2, 3, 4, 6]
          (.seq
           (.draw [0, 1, 0, 4, 0, 28, 60, 124, 255, 511, 1023] [[3], [47], [4], [49], [2], [50, 51], [52], [53], [48, 54], [3], [56, 55]] [⟨some 47, none, .fldA 6 (.t 3)⟩,
             ⟨some 48, none, .load false 1 (.t 47)⟩,
             ⟨some 49, none, .fldA 6 (.t 4)⟩,
             ⟨some 50, none, .load false 1 (.t 49)⟩,
             ⟨some 51, none, .mv (.t 2)⟩,
             ⟨some 52, none, .idxS 1 (.t 50) (.t 51)⟩,
             ⟨some 53, none, .load false 1 (.t 52)⟩,
             ⟨some 54, none, .bslice 10 1 1 [.int .i64 0] [(0, .t 53)]⟩,
             ⟨some 55, none, .app 10 1 (.t 48) (.t 54)⟩,
             ⟨some 56, none, .fldA 6 (.t 3)⟩,
             ⟨none, none, .store 1 (.t 56) (.t 55)⟩])
           (.keep [2, 3, 4, 6]
            (.seq
             (.draw [0, 1, 0, 4, 0, 28, 60, 124, 255, 511, 1023] [[3], [57], [4], [59], [2], [60, 61], [62], [63], [58, 64], [3], [66, 65]] [⟨some 57, none, .fldA 7 (.t 3)⟩,
               ⟨some 58, none, .load false 1 (.t 57)⟩,
               ⟨some 59, none, .fldA 7 (.t 4)⟩,
               ⟨some 60, none, .load false 1 (.t 59)⟩,
               ⟨some 61, none, .mv (.t 2)⟩,
               ⟨some 62, none, .idxS 1 (.t 60) (.t 61)⟩,
               ⟨some 63, none, .load false 1 (.t 62)⟩,
               ⟨some 64, none, .bslice 10 1 1 [.int .i64 0] [(0, .t 63)]⟩,
               ⟨some 65, none, .app 10 1 (.t 58) (.t 64)⟩,
               ⟨some 66, none, .fldA 7 (.t 3)⟩,
               ⟨none, none, .store 1 (.t 66) (.t 65)⟩])
             (.keep [3, 6]
              (.seq
               (.ops [⟨some 67, none, .load true 8 (.t 3)⟩,
                 ⟨none, none, .store 8 (.t 6) (.t 67)⟩])
               .ret)))))))))))))) }
structure N142 (R : Env) : Prop where
  o142 : R.Fn 142 c142
/-- umbra.umbraref38.Crop -/
def c114 : IFn := { np := 5, rs := [.cell 10 true 8, .t 11], body :=
 (.seq
  (.ops [⟨some 5, none, .box 16 (.t 0)⟩,
    ⟨some 10, none, .alloc 16 [.int .i64 0, .int .i64 0, .nils, .nils, .nils, .nils, .nils, .nils]⟩,
    ⟨some 11, none, .mv (.k (.int .i64 0))⟩])
  (.seq
   (.seq
    (.ops [⟨some 16, none, .load true 8 (.t 5)⟩,
      ⟨some 17, none, .call 140 [.t 16]⟩,
      ⟨some 12, none, .mv (.t 17)⟩])
    (.seq
     (.ops [⟨some 18, none, .mv (.t 12)⟩,
       ⟨some 19, none, .bin .neq (.t 18) (.k (.int .i64 0))⟩])
     (.cond (.t 19)
      (.seq
       (.ops [⟨some 20, none, .build [.int .i64 0, .int .i64 0, .nils, .nils, .nils, .nils, .nils, .nils] []⟩,
         ⟨some 21, none, .mv (.t 12)⟩,
         ⟨none, none, .store 8 (.t 10) (.t 20)⟩,
         ⟨some 11, none, .mv (.t 21)⟩])
       .ret)
      .skip)))
   (.keep [1, 2, 3, 4, 5, 10]
    (.seq
     (.seq
      (.ops [⟨some 22, none, .load true 8 (.t 5)⟩,
        ⟨some 23, none, .mv (.t 1)⟩,
        ⟨some 24, none, .mv (.t 2)⟩,
        ⟨some 25, none, .mv (.t 3)⟩,
        ⟨some 26, none, .mv (.t 4)⟩,
        ⟨some 27, none, .call 141 [.t 22, .t 23, .t 24, .t 25, .t 26]⟩,
        ⟨some 28, none, .un .not (.t 27)⟩])
      (.keep [1, 2, 3, 4, 5, 10, 28]
       (.cond (.t 28)
        (.seq
         (.ops [⟨some 29, none, .build [.int .i64 0, .int .i64 0, .nils, .nils, .nils, .nils, .nils, .nils] []⟩,
           ⟨none, none, .store 8 (.t 10) (.t 29)⟩,
           ⟨some 11, none, .mv (.k (.int .i64 2))⟩])
         .ret)
        .skip)))
     (.keep [1, 2, 3, 4, 5, 10]
      (.seq
       (.ops [⟨some 30, none, .mv (.t 3)⟩,
         ⟨some 31, none, .mv (.t 4)⟩,
         ⟨some 32, none, .build [.int .i64 0, .int .i64 0, .nils, .nils, .nils, .nils, .nils, .nils] [(0, 1, .t 30), (1, 1, .t 31)]⟩,
         ⟨some 13, none, .alloc 16 [.int .i64 0, .int .i64 0, .nils, .nils, .nils, .nils, .nils, .nils]⟩,
         ⟨none, none, .store 8 (.t 13) (.t 32)⟩])
       (.keep [1, 2, 3, 4, 5, 10, 13]
        (.seq
         (.seq
          (.ops [⟨some 33, none, .mv (.t 2)⟩,
            ⟨some 14, none, .mv (.t 33)⟩])
          (.keep [1, 2, 3, 4, 5, 10, 13, 14]
           (.block 0
            (.loop
             (.seq
              (.seq
               (.ops [⟨some 34, none, .mv (.t 14)⟩,
                 ⟨some 35, none, .mv (.t 2)⟩,
                 ⟨some 36, none, .mv (.t 4)⟩,
                 ⟨some 37, none, .bin .add (.t 35) (.t 36)⟩,
                 ⟨some 38, none, .bin .lss (.t 34) (.t 37)⟩])
               (.keep [1, 2, 3, 4, 5, 10, 13, 14, 38]
                (.cond (.t 38)
                 .skip
                 (.exit 0))))
              (.keep [1, 2, 3, 4, 5, 10, 13, 14]
               (.seq
                (.block 1
                 (.seq
                  (.ops [⟨some 41, none, .mv (.t 1)⟩,
                    ⟨some 15, none, .mv (.t 41)⟩])
                  (.keep [1, 2, 3, 4, 5, 10, 13, 14, 15]
                   (.block 2
                    (.loop
                     (.seq
                      (.seq
                       (.ops [⟨some 42, none, .mv (.t 15)⟩,
                         ⟨some 43, none, .mv (.t 1)⟩,
                         ⟨some 44, none, .mv (.t 3)⟩,
                         ⟨some 45, none, .bin .add (.t 43) (.t 44)⟩,
                         ⟨some 46, none, .bin .lss (.t 42) (.t 45)⟩])
                       (.keep [1, 2, 3, 4, 5, 10, 13, 14, 15, 46]
                        (.cond (.t 46)
                         .skip
                         (.exit 2))))
                      (.keep [1, 2, 3, 4, 5, 10, 13, 14, 15]
                       (.seq
                        (.block 3
                         (.ops [⟨some 49, none, .load true 8 (.t 13)⟩,
                           ⟨some 50, none, .load true 8 (.t 5)⟩,
                           ⟨some 51, none, .mv (.t 14)⟩,
                           ⟨some 52, none, .fldA 0 (.t 5)⟩,
                           ⟨some 53, none, .load false 1 (.t 52)⟩,
                           ⟨some 54, none, .bin .mul (.t 51) (.t 53)⟩,
                           ⟨some 55, none, .mv (.t 15)⟩,
                           ⟨some 56, none, .bin .add (.t 54) (.t 55)⟩,
                           ⟨some 57, none, .call 142 [.t 49, .t 50, .t 56]⟩,
                           ⟨none, none, .store 8 (.t 13) (.t 57)⟩]))
                        (.keep [1, 2, 3, 4, 5, 10, 13, 14, 15]
                         (.ops [⟨some 47, none, .mv (.t 15)⟩,
                           ⟨some 48, none, .bin .add (.t 47) (.k (.int .i64 1))⟩,
                           ⟨some 15, none, .mv (.t 48)⟩]))))))))))
                (.keep [1, 2, 3, 4, 5, 10, 13, 14]
                 (.ops [⟨some 39, none, .mv (.t 14)⟩,
                   ⟨some 40, none, .bin .add (.t 39) (.k (.int .i64 1))⟩,
                   ⟨some 14, none, .mv (.t 40)⟩])))))))))
         (.keep [10, 13]
          (.seq
           (.ops [⟨some 58, none, .load true 8 (.t 13)⟩,
             ⟨none, none, .store 8 (.t 10) (.t 58)⟩,
             ⟨some 11, none, .mv (.k (.int .i64 0))⟩])
           .ret)))))))))) }
structure N114 (R : Env) : Prop where
  o114 : R.Fn 114 c114
  n140 : N140 R
  n141 : N141 R
  n142 : N142 R
/-- umbra.umbraref38.Put -/
def c116 : IFn := { np := 4, rs := [.cell 8 true 8, .t 9], body :=
 (.seq
  (.ops [⟨some 4, none, .box 16 (.t 0)⟩,
    ⟨some 5, none, .box 16 (.t 1)⟩,
    ⟨some 8, none, .alloc 16 [.int .i64 0, .int .i64 0, .nils, .nils, .nils, .nils, .nils, .nils]⟩,
    ⟨some 9, none, .mv (.k (.int .i64 0))⟩])
  (.seq
   (.seq
    (.ops [⟨some 15, none, .load true 8 (.t 4)⟩,
      ⟨some 16, none, .call 140 [.t 15]⟩,
      ⟨some 10, none, .mv (.t 16)⟩])
    (.seq
     (.ops [⟨some 17, none, .mv (.t 10)⟩,
       ⟨some 18, none, .bin .neq (.t 17) (.k (.int .i64 0))⟩])
     (.cond (.t 18)
      (.seq
       (.ops [⟨some 19, none, .build [.int .i64 0, .int .i64 0, .nils, .nils, .nils, .nils, .nils, .nils] []⟩,
         ⟨some 20, none, .mv (.t 10)⟩,
         ⟨none, none, .store 8 (.t 8) (.t 19)⟩,
         ⟨some 9, none, .mv (.t 20)⟩])
       .ret)
      .skip)))
   (.keep [2, 3, 4, 5, 8]
    (.seq
     (.seq
      (.ops [⟨some 21, none, .load true 8 (.t 5)⟩,
        ⟨some 22, none, .call 140 [.t 21]⟩,
        ⟨some 11, none, .mv (.t 22)⟩])
      (.seq
       (.ops [⟨some 23, none, .mv (.t 11)⟩,
         ⟨some 24, none, .bin .neq (.t 23) (.k (.int .i64 0))⟩])
       (.cond (.t 24)
        (.seq
         (.ops [⟨some 25, none, .build [.int .i64 0, .int .i64 0, .nils, .nils, .nils, .nils, .nils, .nils] []⟩,
           ⟨some 26, none, .mv (.t 11)⟩,
           ⟨none, none, .store 8 (.t 8) (.t 25)⟩,
           ⟨some 9, none, .mv (.t 26)⟩])
         .ret)
        .skip)))
     (.keep [2, 3, 4, 5, 8]
      (.seq
       (.seq
        (.ops [⟨some 27, none, .load true 8 (.t 4)⟩,
          ⟨some 28, none, .mv (.t 2)⟩,
          ⟨some 29, none, .mv (.t 3)⟩,
          ⟨some 30, none, .fldA 0 (.t 5)⟩,
          ⟨some 31, none, .load false 1 (.t 30)⟩,
          ⟨some 32, none, .fldA 1 (.t 5)⟩,
          ⟨some 33, none, .load false 1 (.t 32)⟩,
          ⟨some 34, none, .call 141 [.t 27, .t 28, .t 29, .t 31, .t 33]⟩,
          ⟨some 35, none, .un .not (.t 34)⟩])
        (.keep [2, 3, 4, 5, 8, 35]
         (.cond (.t 35)
          (.seq
           (.ops [⟨some 36, none, .build [.int .i64 0, .int .i64 0, .nils, .nils, .nils, .nils, .nils, .nils] []⟩,
             ⟨none, none, .store 8 (.t 8) (.t 36)⟩,
             ⟨some 9, none, .mv (.k (.int .i64 2))⟩])
           .ret)
          .skip)))
       (.keep [2, 3, 4, 5, 8]
        (.seq
         (.ops [⟨some 37, none, .fldA 0 (.t 4)⟩,
           ⟨some 38, none, .load false 1 (.t 37)⟩,
           ⟨some 39, none, .fldA 1 (.t 4)⟩,
           ⟨some 40, none, .load false 1 (.t 39)⟩,
           ⟨some 41, none, .build [.int .i64 0, .int .i64 0, .nils, .nils, .nils, .nils, .nils, .nils] [(0, 1, .t 38), (1, 1, .t 40)]⟩,
           ⟨some 12, none, .alloc 16 [.int .i64 0, .int .i64 0, .nils, .nils, .nils, .nils, .nils, .nils]⟩,
           ⟨none, none, .store 8 (.t 12) (.t 41)⟩])
         (.keep [2, 3, 4, 5, 8, 12]
          (.seq
           (.seq
            (.ops [⟨some 13, none, .mv (.k (.int .i64 0))⟩])
            (.keep [2, 3, 4, 5, 8, 12, 13]
             (.block 0
              (.loop
               (.seq
                (.seq
                 (.ops [⟨some 42, none, .mv (.t 13)⟩,
                   ⟨some 43, none, .fldA 1 (.t 4)⟩,
                   ⟨some 44, none, .load false 1 (.t 43)⟩,
                   ⟨some 45, none, .bin .lss (.t 42) (.t 44)⟩])
                 (.cond (.t 45)
                  .skip
                  (.exit 0)))
                (.keep [2, 3, 4, 5, 8, 12, 13]
                 (.seq
                  (.block 1
                   (.seq
                    (.ops [⟨some 14, none, .mv (.k (.int .i64 0))⟩])
                    (.keep [2, 3, 4, 5, 8, 12, 13, 14]
                     (.block 2
                      (.loop
                       (.seq
                        (.seq
                         (.ops [⟨some 48, none, .mv (.t 14)⟩,
                           ⟨some 49, none, .fldA 0 (.t 4)⟩,
                           ⟨some 50, none, .load false 1 (.t 49)⟩,
                           ⟨some 51, none, .bin .lss (.t 48) (.t 50)⟩])
                         (.cond (.t 51)
                          .skip
                          (.exit 2)))
                        (.keep [2, 3, 4, 5, 8, 12, 13, 14]
                         (.seq
                          (.block 3
                           (.seq
                            (.ops [⟨some 54, none, .mv (.t 13)⟩,
                              ⟨some 55, none, .mv (.t 3)⟩,
                              ⟨some 56, none, .bin .geq (.t 54) (.t 55)⟩,
                              ⟨some 57, none, .mv (.t 56)⟩,
                              ⟨some 58, some (57, true), .mv (.t 13)⟩,
                              ⟨some 59, some (57, true), .mv (.t 3)⟩,
                              ⟨some 60, some (57, true), .fldA 1 (.t 5)⟩,
                              ⟨some 61, some (57, true), .load false 1 (.t 60)⟩,
                              ⟨some 62, some (57, true), .bin .add (.t 59) (.t 61)⟩,
                              ⟨some 63, some (57, true), .bin .lss (.t 58) (.t 62)⟩,
                              ⟨some 64, none, .pick (.t 57) (.t 63) (.k (.bool false))⟩,
                              ⟨some 65, none, .mv (.t 64)⟩,
                              ⟨some 66, some (65, true), .mv (.t 14)⟩,
                              ⟨some 67, some (65, true), .mv (.t 2)⟩,
                              ⟨some 68, some (65, true), .bin .geq (.t 66) (.t 67)⟩,
                              ⟨some 69, none, .pick (.t 65) (.t 68) (.k (.bool false))⟩,
                              ⟨some 70, none, .mv (.t 69)⟩,
                              ⟨some 71, some (70, true), .mv (.t 14)⟩,
                              ⟨some 72, some (70, true), .mv (.t 2)⟩,
                              ⟨some 73, some (70, true), .fldA 0 (.t 5)⟩,
                              ⟨some 74, some (70, true), .load false 1 (.t 73)⟩,
                              ⟨some 75, some (70, true), .bin .add (.t 72) (.t 74)⟩,
                              ⟨some 76, some (70, true), .bin .lss (.t 71) (.t 75)⟩,
                              ⟨some 77, none, .pick (.t 70) (.t 76) (.k (.bool false))⟩])
                            (.keep [2, 3, 4, 5, 8, 12, 13, 14, 77]
                             (.cond (.t 77)
                              (.ops [⟨some 78, none, .load true 8 (.t 12)⟩,
                                ⟨some 79, none, .load true 8 (.t 5)⟩,
                                ⟨some 80, none, .mv (.t 13)⟩,
                                ⟨some 81, none, .mv (.t 3)⟩,
                                ⟨some 82, none, .bin .sub (.t 80) (.t 81)⟩,
                                ⟨some 83, none, .fldA 0 (.t 5)⟩,
                                ⟨some 84, none, .load false 1 (.t 83)⟩,
                                ⟨some 85, none, .bin .mul (.t 82) (.t 84)⟩,
                                ⟨some 86, none, .mv (.t 14)⟩,
                                ⟨some 87, none, .bin .add (.t 85) (.t 86)⟩,
                                ⟨some 88, none, .mv (.t 2)⟩,
                                ⟨some 89, none, .bin .sub (.t 87) (.t 88)⟩,
                                ⟨some 90, none, .call 142 [.t 78, .t 79, .t 89]⟩,
                                ⟨none, none, .store 8 (.t 12) (.t 90)⟩])
                              (.ops [⟨some 91, none, .load true 8 (.t 12)⟩,
                                ⟨some 92, none, .load true 8 (.t 4)⟩,
                                ⟨some 93, none, .mv (.t 13)⟩,
                                ⟨some 94, none, .fldA 0 (.t 4)⟩,
                                ⟨some 95, none, .load false 1 (.t 94)⟩,
                                ⟨some 96, none, .bin .mul (.t 93) (.t 95)⟩,
                                ⟨some 97, none, .mv (.t 14)⟩,
                                ⟨some 98, none, .bin .add (.t 96) (.t 97)⟩,
                                ⟨some 99, none, .call 142 [.t 91, .t 92, .t 98]⟩,
                                ⟨none, none, .store 8 (.t 12) (.t 99)⟩])))))
                          (.keep [2, 3, 4, 5, 8, 12, 13, 14]
                           (.ops [⟨some 52, none, .mv (.t 14)⟩,
                             ⟨some 53, none, .bin .add (.t 52) (.k (.int .i64 1))⟩,
                             ⟨some 14, none, .mv (.t 53)⟩]))))))))))
                  (.keep [2, 3, 4, 5, 8, 12, 13]
                   (.ops [⟨some 46, none, .mv (.t 13)⟩,
                     ⟨some 47, none, .bin .add (.t 46) (.k (.int .i64 1))⟩,
                     ⟨some 13, none, .mv (.t 47)⟩])))))))))
           (.keep [8, 12]
            (.seq
             (.ops [⟨some 100, none, .load true 8 (.t 12)⟩,
               ⟨none, none, .store 8 (.t 8) (.t 100)⟩,
               ⟨some 9, none, .mv (.k (.int .i64 0))⟩])
             .ret)))))))))))) }
structure N116 (R : Env) : Prop where
  o116 : R.Fn 116 c116
  n140 : N140 R
  n141 : N141 R
  n142 : N142 R
/-- umbra.umbraref38.near -/
def c150 : IFn := { np := 1, rs := [.t 2], body :=
 (.seq
  (.ops [⟨some 2, none, .mv (.k (.int .i64 0))⟩])
  (.seq
   (.seq
    (.ops [⟨some 3, none, .mv (.t 0)⟩,
      ⟨some 4, none, .bin .lss (.t 3) (.k (.int .i64 0))⟩])
    (.cond (.t 4)
     (.seq
      (.ops [⟨some 2, none, .mv (.k (.int .i64 0))⟩])
      .ret)
     .skip))
   (.keep [0]
    (.seq
     (.seq
      (.ops [⟨some 5, none, .mv (.t 0)⟩,
        ⟨some 6, none, .bin .gtr (.t 5) (.k (.int .i64 65535))⟩])
      (.cond (.t 6)
       (.seq
        (.ops [⟨some 2, none, .mv (.k (.int .i64 65535))⟩])
        .ret)
       .skip))
     (.keep [0]
      (.seq
       (.ops [⟨some 7, none, .mv (.t 0)⟩,
         ⟨some 2, none, .mv (.t 7)⟩])
       .ret)))))) }
structure N150 (R : Env) : Prop where
  o150 : R.Fn 150 c150
/-- umbra.umbraref38.Mix -/
def c125 : IFn := { np := 3, rs := [.t 6], body :=
 (.seq
  (.ops [⟨some 6, none, .mv (.k (.int .i64 0))⟩])
  (.seq
   (.ops [⟨some 7, none, .mv (.t 0)⟩,
     ⟨some 8, none, .call 150 [.t 7]⟩,
     ⟨some 9, none, .mv (.t 1)⟩,
     ⟨some 10, none, .call 150 [.t 9]⟩,
     ⟨some 11, none, .mv (.t 2)⟩,
     ⟨some 12, none, .call 150 [.t 11]⟩,
     ⟨some 13, none, .bin .sub (.k (.int .i64 65535)) (.t 12)⟩,
     ⟨some 14, none, .bin .mul (.t 10) (.t 13)⟩,
     ⟨some 15, none, .bin .add (.t 14) (.k (.int .i64 32767))⟩,
     ⟨some 16, none, .bin .quo (.t 15) (.k (.int .i64 65535))⟩,
     ⟨some 17, none, .bin .add (.t 8) (.t 16)⟩,
     ⟨some 18, none, .call 150 [.t 17]⟩,
     ⟨some 6, none, .mv (.t 18)⟩])
   (.keep [6]
    .ret))) }
structure N125 (R : Env) : Prop where
  o125 : R.Fn 125 c125
  n150 : N150 R
/-- umbra.umbraref38.Over -/
def c122 : IFn := { np := 2, rs := [.cell 4 true 8, .t 5], body :=
 (.seq
  (.ops [⟨some 2, none, .box 16 (.t 0)⟩,
    ⟨some 3, none, .box 16 (.t 1)⟩,
    ⟨some 4, none, .alloc 16 [.int .i64 0, .int .i64 0, .nils, .nils, .nils, .nils, .nils, .nils]⟩,
    ⟨some 5, none, .mv (.k (.int .i64 0))⟩])
  (.seq
   (.seq
    (.ops [⟨some 12, none, .load true 8 (.t 2)⟩,
      ⟨some 13, none, .call 140 [.t 12]⟩,
      ⟨some 6, none, .mv (.t 13)⟩])
    (.seq
     (.ops [⟨some 14, none, .mv (.t 6)⟩,
       ⟨some 15, none, .bin .neq (.t 14) (.k (.int .i64 0))⟩])
     (.cond (.t 15)
      (.seq
       (.ops [⟨some 16, none, .build [.int .i64 0, .int .i64 0, .nils, .nils, .nils, .nils, .nils, .nils] []⟩,
         ⟨some 17, none, .mv (.t 6)⟩,
         ⟨none, none, .store 8 (.t 4) (.t 16)⟩,
         ⟨some 5, none, .mv (.t 17)⟩])
       .ret)
      .skip)))
   (.keep [2, 3, 4]
    (.seq
     (.seq
      (.ops [⟨some 18, none, .load true 8 (.t 3)⟩,
        ⟨some 19, none, .call 140 [.t 18]⟩,
        ⟨some 7, none, .mv (.t 19)⟩])
      (.seq
       (.ops [⟨some 20, none, .mv (.t 7)⟩,
         ⟨some 21, none, .bin .neq (.t 20) (.k (.int .i64 0))⟩])
       (.cond (.t 21)
        (.seq
         (.ops [⟨some 22, none, .build [.int .i64 0, .int .i64 0, .nils, .nils, .nils, .nils, .nils, .nils] []⟩,
           ⟨some 23, none, .mv (.t 7)⟩,
           ⟨none, none, .store 8 (.t 4) (.t 22)⟩,
           ⟨some 5, none, .mv (.t 23)⟩])
         .ret)
        .skip)))
     (.keep [2, 3, 4]
      (.seq
       (.seq
        (.ops [⟨some 24, none, .fldA 0 (.t 2)⟩,
          ⟨some 25, none, .load false 1 (.t 24)⟩,
          ⟨some 26, none, .fldA 0 (.t 3)⟩,
          ⟨some 27, none, .load false 1 (.t 26)⟩,
          ⟨some 28, none, .bin .neq (.t 25) (.t 27)⟩,
          ⟨some 29, none, .mv (.t 28)⟩,
          ⟨some 30, some (29, false), .fldA 1 (.t 2)⟩,
          ⟨some 31, some (29, false), .load false 1 (.t 30)⟩,
          ⟨some 32, some (29, false), .fldA 1 (.t 3)⟩,
          ⟨some 33, some (29, false), .load false 1 (.t 32)⟩,
          ⟨some 34, some (29, false), .bin .neq (.t 31) (.t 33)⟩,
          ⟨some 35, none, .pick (.t 29) (.k (.bool true)) (.t 34)⟩])
        (.keep [2, 3, 4, 35]
         (.cond (.t 35)
          (.seq
           (.ops [⟨some 36, none, .build [.int .i64 0, .int .i64 0, .nils, .nils, .nils, .nils, .nils, .nils] []⟩,
             ⟨none, none, .store 8 (.t 4) (.t 36)⟩,
             ⟨some 5, none, .mv (.k (.int .i64 2))⟩])
           .ret)
          .skip)))
       (.keep [2, 3, 4]
        (.seq
         (.ops [⟨some 37, none, .fldA 0 (.t 2)⟩,
           ⟨some 38, none, .load false 1 (.t 37)⟩,
           ⟨some 39, none, .fldA 1 (.t 2)⟩,
           ⟨some 40, none, .load false 1 (.t 39)⟩,
           ⟨some 41, none, .build [.int .i64 0, .int .i64 0, .nils, .nils, .nils, .nils, .nils, .nils] [(0, 1, .t 38), (1, 1, .t 40)]⟩,
           ⟨some 8, none, .alloc 16 [.int .i64 0, .int .i64 0, .nils, .nils, .nils, .nils, .nils, .nils]⟩,
           ⟨none, none, .store 8 (.t 8) (.t 41)⟩])
         (.keep [2, 3, 4, 8]
          (.seq
           (.seq
            (.ops [⟨some 9, none, .mv (.k (.int .i64 0))⟩])
            (.keep [2, 3, 4, 8, 9]
             (.block 0
              (.loop
               (.seq
                (.seq
                 (.ops [⟨some 42, none, .mv (.t 9)⟩,
                   ⟨some 43, none, .fldA 0 (.t 2)⟩,
                   ⟨some 44, none, .load false 1 (.t 43)⟩,
                   ⟨some 45, none, .fldA 1 (.t 2)⟩,
                   ⟨some 46, none, .load false 1 (.t 45)⟩,
                   ⟨some 47, none, .bin .mul (.t 44) (.t 46)⟩,
                   ⟨some 48, none, .bin .lss (.t 42) (.t 47)⟩])
                 (.keep [2, 3, 4, 8, 9, 48]
                  (.cond (.t 48)
                   .skip
                   (.exit 0))))
                (.keep [2, 3, 4, 8, 9]
                 (.seq
                  (.block 1
                   (.seq
                    (.seq
                     (.ops [⟨some 51, none, .fldA 3 (.t 2)⟩,
                       ⟨some 52, none, .load false 1 (.t 51)⟩,
                       ⟨some 53, none, .mv (.t 9)⟩,
                       ⟨some 54, none, .idxS 1 (.t 52) (.t 53)⟩,
                       ⟨some 55, none, .load false 1 (.t 54)⟩,
                       ⟨some 56, none, .bin .geq (.t 55) (.k (.int .i64 32768))⟩])
                     (.keep [2, 3, 4, 8, 9, 56]
                      (.cond (.t 56)
                       (.ops [⟨some 57, none, .load true 8 (.t 8)⟩,
                         ⟨some 58, none, .load true 8 (.t 2)⟩,
                         ⟨some 59, none, .mv (.t 9)⟩,
                         ⟨some 60, none, .call 142 [.t 57, .t 58, .t 59]⟩,
                         ⟨none, none, .store 8 (.t 8) (.t 60)⟩])
                       (.ops [⟨some 61, none, .load true 8 (.t 8)⟩,
                         ⟨some 62, none, .load true 8 (.t 3)⟩,
                         ⟨some 63, none, .mv (.t 9)⟩,
                         ⟨some 64, none, .call 142 [.t 61, .t 62, .t 63]⟩,
                         ⟨none, none, .store 8 (.t 8) (.t 64)⟩]))))
                    (.keep [2, 3, 4, 8, 9]
                     (.seq
                      (.ops [⟨some 10, none, .alloc 13 [.int .i64 0, .int .i64 0, .int .i64 0]⟩])
                      (.seq
                       (.seq
                        (.ops [⟨some 11, none, .mv (.k (.int .i64 0))⟩])
                        (.keep [2, 3, 4, 8, 9, 10, 11]
                         (.block 2
                          (.loop
                           (.seq
                            (.seq
                             (.ops [⟨some 65, none, .mv (.t 11)⟩,
                               ⟨some 66, none, .bin .lss (.t 65) (.k (.int .i64 3))⟩])
                             (.cond (.t 66)
                              .skip
                              (.exit 2)))
                            (.keep [2, 3, 4, 8, 9, 10, 11]
                             (.seq
                              (.block 3
                               (.draw [0, 0, 2, 0, 0, 14, 62, 126, 0, 256, 0, 0, 1792, 7936, 16128, 0, 32768, 0, 229376, 491520, 1048574, 2097151, 4194303] [[11], [2], [70], [9], [11], [71, 72], [74, 73], [75], [3], [77], [9], [11], [78, 79], [81, 80], [82], [2], [84], [9], [85, 86], [87], [76, 83, 88], [10, 69], [90, 89]] [⟨some 69, none, .mv (.t 11)⟩,
                                 ⟨some 70, none, .fldA 2 (.t 2)⟩,
                                 ⟨some 71, none, .load false 1 (.t 70)⟩,
                                 ⟨some 72, none, .mv (.t 9)⟩,
                                 ⟨some 73, none, .mv (.t 11)⟩,
                                 ⟨some 74, none, .idxS 3 (.t 71) (.t 72)⟩,
                                 ⟨some 75, none, .idxA 3 1 (.t 74) (.t 73)⟩,
                                 ⟨some 76, none, .load false 1 (.t 75)⟩,
                                 ⟨some 77, none, .fldA 2 (.t 3)⟩,
                                 ⟨some 78, none, .load false 1 (.t 77)⟩,
                                 ⟨some 79, none, .mv (.t 9)⟩,
                                 ⟨some 80, none, .mv (.t 11)⟩,
                                 ⟨some 81, none, .idxS 3 (.t 78) (.t 79)⟩,
                                 ⟨some 82, none, .idxA 3 1 (.t 81) (.t 80)⟩,
                                 ⟨some 83, none, .load false 1 (.t 82)⟩,
                                 ⟨some 84, none, .fldA 3 (.t 2)⟩,
                                 ⟨some 85, none, .load false 1 (.t 84)⟩,
                                 ⟨some 86, none, .mv (.t 9)⟩,
                                 ⟨some 87, none, .idxS 1 (.t 85) (.t 86)⟩,
                                 ⟨some 88, none, .load false 1 (.t 87)⟩,
                                 ⟨some 89, none, .call 125 [.t 76, .t 83, .t 88]⟩,
                                 ⟨some 90, none, .idxA 3 1 (.t 10) (.t 69)⟩,
                                 ⟨none, none, .store 1 (.t 90) (.t 89)⟩]))
                              (.keep [2, 3, 4, 8, 9, 10, 11]
                               (.ops [⟨some 67, none, .mv (.t 11)⟩,
                                 ⟨some 68, none, .bin .add (.t 67) (.k (.int .i64 1))⟩,
                                 ⟨some 11, none, .mv (.t 68)⟩])))))))))
                       (.keep [2, 3, 4, 8, 9, 10]
                        (.seq
                         (.ops [⟨some 91, none, .fldA 2 (.t 8)⟩,
                           ⟨some 92, none, .load false 1 (.t 91)⟩,
                           ⟨some 93, none, .mv (.t 9)⟩,
                           ⟨some 94, none, .load true 3 (.t 10)⟩,
                           ⟨some 95, none, .idxS 3 (.t 92) (.t 93)⟩,
                           ⟨none, none, .store 3 (.t 95) (.t 94)⟩])
                         (.keep [2, 3, 4, 8, 9]
                          (.draw [0, 1, 0, 0, 8, 0, 56, 120, 0, 256, 0, 1792, 3840, 0, 8192, 0, 57344, 122880, 262136, 524287, 1048575] [[8], [96], [9], [2], [99], [9], [100, 101], [102], [3], [104], [9], [105, 106], [107], [2], [109], [9], [110, 111], [112], [103, 108, 113], [97, 98], [115, 114]] [⟨some 96, none, .fldA 3 (.t 8)⟩,
                            ⟨some 97, none, .load false 1 (.t 96)⟩,
                            ⟨some 98, none, .mv (.t 9)⟩,
                            ⟨some 99, none, .fldA 3 (.t 2)⟩,
                            ⟨some 100, none, .load false 1 (.t 99)⟩,
                            ⟨some 101, none, .mv (.t 9)⟩,
                            ⟨some 102, none, .idxS 1 (.t 100) (.t 101)⟩,
                            ⟨some 103, none, .load false 1 (.t 102)⟩,
                            ⟨some 104, none, .fldA 3 (.t 3)⟩,
                            ⟨some 105, none, .load false 1 (.t 104)⟩,
                            ⟨some 106, none, .mv (.t 9)⟩,
                            ⟨some 107, none, .idxS 1 (.t 105) (.t 106)⟩,
                            ⟨some 108, none, .load false 1 (.t 107)⟩,
                            ⟨some 109, none, .fldA 3 (.t 2)⟩,
                            ⟨some 110, none, .load false 1 (.t 109)⟩,
                            ⟨some 111, none, .mv (.t 9)⟩,
                            ⟨some 112, none, .idxS 1 (.t 110) (.t 111)⟩,
                            ⟨some 113, none, .load false 1 (.t 112)⟩,
                            ⟨some 114, none, .call 125 [.t 103, .t 108, .t 113]⟩,
                            ⟨some 115, none, .idxS 1 (.t 97) (.t 98)⟩,
                            ⟨none, none, .store 1 (.t 115) (.t 114)⟩])))))))))
                  (.keep [2, 3, 4, 8, 9]
                   (.ops [⟨some 49, none, .mv (.t 9)⟩,
                     ⟨some 50, none, .bin .add (.t 49) (.k (.int .i64 1))⟩,
                     ⟨some 9, none, .mv (.t 50)⟩])))))))))
           (.keep [4, 8]
            (.seq
             (.ops [⟨some 116, none, .load true 8 (.t 8)⟩,
               ⟨none, none, .store 8 (.t 4) (.t 116)⟩,
               ⟨some 5, none, .mv (.k (.int .i64 0))⟩])
             .ret)))))))))))) }
structure N122 (R : Env) : Prop where
  o122 : R.Fn 122 c122
  n125 : N125 R
  n140 : N140 R
  n142 : N142 R
/-- umbra.umbraref38.size -/
def c149 : IFn := { np := 1, rs := [.t 2], body :=
 (.seq
  (.ops [⟨some 2, none, .mv (.k (.int .i64 0))⟩])
  (.seq
   (.seq
    (.ops [⟨some 3, none, .mv (.t 0)⟩,
      ⟨some 4, none, .bin .lss (.t 3) (.k (.int .i64 0))⟩])
    (.cond (.t 4)
     (.seq
      (.ops [⟨some 5, none, .mv (.t 0)⟩,
        ⟨some 6, none, .un .neg (.t 5)⟩,
        ⟨some 2, none, .mv (.t 6)⟩])
      .ret)
     .skip))
   (.keep [0]
    (.seq
     (.ops [⟨some 7, none, .mv (.t 0)⟩,
       ⟨some 2, none, .mv (.t 7)⟩])
     .ret)))) }
structure N149 (R : Env) : Prop where
  o149 : R.Fn 149 c149
/-- umbra.umbraref38.Apart -/
def c124 : IFn := { np := 2, rs := [.t 4, .t 5, .t 6], body :=
 (.seq
  (.ops [⟨some 2, none, .box 16 (.t 0)⟩,
    ⟨some 3, none, .box 16 (.t 1)⟩,
    ⟨some 4, none, .mv (.k (.int .i64 0))⟩,
    ⟨some 5, none, .mv (.k (.int .i64 0))⟩,
    ⟨some 6, none, .mv (.k (.int .i64 0))⟩])
  (.keep [2, 3]
   (.seq
    (.seq
     (.ops [⟨some 16, none, .load true 8 (.t 2)⟩,
       ⟨some 17, none, .call 140 [.t 16]⟩,
       ⟨some 7, none, .mv (.t 17)⟩])
     (.seq
      (.ops [⟨some 18, none, .mv (.t 7)⟩,
        ⟨some 19, none, .bin .neq (.t 18) (.k (.int .i64 0))⟩])
      (.cond (.t 19)
       (.seq
        (.ops [⟨some 20, none, .mv (.t 7)⟩,
          ⟨some 4, none, .mv (.k (.int .i64 0))⟩,
          ⟨some 5, none, .mv (.k (.int .i64 0))⟩,
          ⟨some 6, none, .mv (.t 20)⟩])
        .ret)
       .skip)))
    (.keep [2, 3]
     (.seq
      (.seq
       (.ops [⟨some 21, none, .load true 8 (.t 3)⟩,
         ⟨some 22, none, .call 140 [.t 21]⟩,
         ⟨some 8, none, .mv (.t 22)⟩])
       (.seq
        (.ops [⟨some 23, none, .mv (.t 8)⟩,
          ⟨some 24, none, .bin .neq (.t 23) (.k (.int .i64 0))⟩])
        (.cond (.t 24)
         (.seq
          (.ops [⟨some 25, none, .mv (.t 8)⟩,
            ⟨some 4, none, .mv (.k (.int .i64 0))⟩,
            ⟨some 5, none, .mv (.k (.int .i64 0))⟩,
            ⟨some 6, none, .mv (.t 25)⟩])
          .ret)
         .skip)))
      (.keep [2, 3]
       (.seq
        (.seq
         (.ops [⟨some 26, none, .fldA 0 (.t 2)⟩,
           ⟨some 27, none, .load false 1 (.t 26)⟩,
           ⟨some 28, none, .fldA 0 (.t 3)⟩,
           ⟨some 29, none, .load false 1 (.t 28)⟩,
           ⟨some 30, none, .bin .neq (.t 27) (.t 29)⟩,
           ⟨some 31, none, .mv (.t 30)⟩,
           ⟨some 32, some (31, false), .fldA 1 (.t 2)⟩,
           ⟨some 33, some (31, false), .load false 1 (.t 32)⟩,
           ⟨some 34, some (31, false), .fldA 1 (.t 3)⟩,
           ⟨some 35, some (31, false), .load false 1 (.t 34)⟩,
           ⟨some 36, some (31, false), .bin .neq (.t 33) (.t 35)⟩,
           ⟨some 37, none, .pick (.t 31) (.k (.bool true)) (.t 36)⟩])
         (.keep [2, 3, 37]
          (.cond (.t 37)
           (.seq
            (.ops [⟨some 4, none, .mv (.k (.int .i64 0))⟩,
              ⟨some 5, none, .mv (.k (.int .i64 0))⟩,
              ⟨some 6, none, .mv (.k (.int .i64 2))⟩])
            .ret)
           .skip)))
        (.keep [2, 3]
         (.seq
          (.ops [⟨some 9, none, .mv (.k (.int .i64 0))⟩,
            ⟨some 10, none, .mv (.k (.int .i64 0))⟩])
          (.seq
           (.seq
            (.ops [⟨some 11, none, .mv (.k (.int .i64 0))⟩])
            (.keep [2, 3, 9, 10, 11]
             (.block 0
              (.loop
               (.seq
                (.seq
                 (.ops [⟨some 38, none, .mv (.t 11)⟩,
                   ⟨some 39, none, .fldA 0 (.t 2)⟩,
                   ⟨some 40, none, .load false 1 (.t 39)⟩,
                   ⟨some 41, none, .fldA 1 (.t 2)⟩,
                   ⟨some 42, none, .load false 1 (.t 41)⟩,
                   ⟨some 43, none, .bin .mul (.t 40) (.t 42)⟩,
                   ⟨some 44, none, .bin .lss (.t 38) (.t 43)⟩])
                 (.keep [2, 3, 9, 10, 11, 44]
                  (.cond (.t 44)
                   .skip
                   (.exit 0))))
                (.keep [2, 3, 9, 10, 11]
                 (.seq
                  (.block 1
                   (.seq
                    (.draw [0, 1, 0, 7, 15, 0, 32, 0, 224, 480, 1023, 2047, 4095, 8191, 4095, 32767, 65535, 4095, 135167, 4095, 921599, 1970175, 4194303, 8388607, 16777215, 33554431, 67108863, 33554431, 268435455, 536870911, 33554431, 1107296255, 33554431, 7549747199, 16139681791, 34359738367, 68719476735, 137438953471, 274877906943, 549755813887, 274877906943, 2199023255551, 4398046511103, 274877906943, 9070970929151, 274877906943, 61847529062399, 132216273240063, 281474976710655, 562949953421311, 1125899906842623] [[2], [47], [11], [48, 49], [50], [3], [52], [11], [53, 54], [55], [51, 56], [57], [2], [59], [11], [60, 61], [62], [3], [64], [11], [65, 66], [67], [63, 68], [58, 69], [70], [2], [72], [11], [73, 74], [75], [3], [77], [11], [78, 79], [80], [76, 81], [71, 82], [83], [2], [85], [11], [86, 87], [88], [3], [90], [11], [91, 92], [93], [89, 94], [84, 95], [96]] [⟨some 47, none, .fldA 4 (.t 2)⟩,
                      ⟨some 48, none, .load false 1 (.t 47)⟩,
                      ⟨some 49, none, .mv (.t 11)⟩,
                      ⟨some 50, none, .idxS 1 (.t 48) (.t 49)⟩,
                      ⟨some 51, none, .load false 1 (.t 50)⟩,
                      ⟨some 52, none, .fldA 4 (.t 3)⟩,
                      ⟨some 53, none, .load false 1 (.t 52)⟩,
                      ⟨some 54, none, .mv (.t 11)⟩,
                      ⟨some 55, none, .idxS 1 (.t 53) (.t 54)⟩,
                      ⟨some 56, none, .load false 1 (.t 55)⟩,
                      ⟨some 57, none, .bin .eql (.t 51) (.t 56)⟩,
                      ⟨some 58, none, .mv (.t 57)⟩,
                      ⟨some 59, some (58, true), .fldA 5 (.t 2)⟩,
                      ⟨some 60, some (58, true), .load false 1 (.t 59)⟩,
                      ⟨some 61, some (58, true), .mv (.t 11)⟩,
                      ⟨some 62, some (58, true), .idxS 3 (.t 60) (.t 61)⟩,
                      ⟨some 63, some (58, true), .load true 3 (.t 62)⟩,
                      ⟨some 64, some (58, true), .fldA 5 (.t 3)⟩,
                      ⟨some 65, some (58, true), .load false 1 (.t 64)⟩,
                      ⟨some 66, some (58, true), .mv (.t 11)⟩,
                      ⟨some 67, some (58, true), .idxS 3 (.t 65) (.t 66)⟩,
                      ⟨some 68, some (58, true), .load true 3 (.t 67)⟩,
                      ⟨some 69, some (58, true), .eqa false [.i, .i, .i] (.t 63) (.t 68)⟩,
                      ⟨some 70, none, .pick (.t 58) (.t 69) (.k (.bool false))⟩,
                      ⟨some 71, none, .mv (.t 70)⟩,
                      ⟨some 72, some (71, true), .fldA 6 (.t 2)⟩,
                      ⟨some 73, some (71, true), .load false 1 (.t 72)⟩,
                      ⟨some 74, some (71, true), .mv (.t 11)⟩,
                      ⟨some 75, some (71, true), .idxS 1 (.t 73) (.t 74)⟩,
                      ⟨some 76, some (71, true), .load false 1 (.t 75)⟩,
                      ⟨some 77, some (71, true), .fldA 6 (.t 3)⟩,
                      ⟨some 78, some (71, true), .load false 1 (.t 77)⟩,
                      ⟨some 79, some (71, true), .mv (.t 11)⟩,
                      ⟨some 80, some (71, true), .idxS 1 (.t 78) (.t 79)⟩,
                      ⟨some 81, some (71, true), .load false 1 (.t 80)⟩,
                      ⟨some 82, some (71, true), .bin .eql (.t 76) (.t 81)⟩,
                      ⟨some 83, none, .pick (.t 71) (.t 82) (.k (.bool false))⟩,
                      ⟨some 84, none, .mv (.t 83)⟩,
                      ⟨some 85, some (84, true), .fldA 7 (.t 2)⟩,
                      ⟨some 86, some (84, true), .load false 1 (.t 85)⟩,
                      ⟨some 87, some (84, true), .mv (.t 11)⟩,
                      ⟨some 88, some (84, true), .idxS 1 (.t 86) (.t 87)⟩,
                      ⟨some 89, some (84, true), .load false 1 (.t 88)⟩,
                      ⟨some 90, some (84, true), .fldA 7 (.t 3)⟩,
                      ⟨some 91, some (84, true), .load false 1 (.t 90)⟩,
                      ⟨some 92, some (84, true), .mv (.t 11)⟩,
                      ⟨some 93, some (84, true), .idxS 1 (.t 91) (.t 92)⟩,
                      ⟨some 94, some (84, true), .load false 1 (.t 93)⟩,
                      ⟨some 95, some (84, true), .bin .eql (.t 89) (.t 94)⟩,
                      ⟨some 96, none, .pick (.t 84) (.t 95) (.k (.bool false))⟩,
                      ⟨some 12, none, .mv (.t 96)⟩])
                    (.keep [2, 3, 9, 10, 11, 12]
                     (.seq
                      (.draw [0, 1, 0, 7, 15, 0, 32, 0, 224, 480, 1023, 2047, 4095, 8191] [[2], [97], [11], [98, 99], [100], [3], [102], [11], [103, 104], [105], [101, 106], [107], [108], [109]] [⟨some 97, none, .fldA 3 (.t 2)⟩,
                        ⟨some 98, none, .load false 1 (.t 97)⟩,
                        ⟨some 99, none, .mv (.t 11)⟩,
                        ⟨some 100, none, .idxS 1 (.t 98) (.t 99)⟩,
                        ⟨some 101, none, .load false 1 (.t 100)⟩,
                        ⟨some 102, none, .fldA 3 (.t 3)⟩,
                        ⟨some 103, none, .load false 1 (.t 102)⟩,
                        ⟨some 104, none, .mv (.t 11)⟩,
                        ⟨some 105, none, .idxS 1 (.t 103) (.t 104)⟩,
                        ⟨some 106, none, .load false 1 (.t 105)⟩,
                        ⟨some 107, none, .bin .sub (.t 101) (.t 106)⟩,
                        ⟨some 108, none, .call 149 [.t 107]⟩,
                        ⟨some 109, none, .bslice 10 1 1 [.int .i64 0] [(0, .t 108)]⟩,
                        ⟨some 13, none, .mv (.t 109)⟩])
                      (.keep [2, 3, 9, 10, 11, 12, 13]
                       (.seq
                        (.seq
                         (.ops [⟨some 14, none, .mv (.k (.int .i64 0))⟩])
                         (.keep [2, 3, 9, 10, 11, 12, 13, 14]
                          (.block 2
                           (.loop
                            (.seq
                             (.seq
                              (.ops [⟨some 110, none, .mv (.t 14)⟩,
                                ⟨some 111, none, .bin .lss (.t 110) (.k (.int .i64 3))⟩])
                              (.cond (.t 111)
                               .skip
                               (.exit 2)))
                             (.keep [2, 3, 9, 10, 11, 12, 13, 14]
                              (.seq
                               (.block 3
                                (.draw [0, 0, 2, 0, 0, 14, 62, 126, 0, 256, 0, 0, 1792, 7936, 16128, 32766, 65534, 131070, 262143, 524287] [[13], [2], [115], [11], [14], [116, 117], [119, 118], [120], [3], [122], [11], [14], [123, 124], [126, 125], [127], [121, 128], [129], [130], [114, 131], [132]] [⟨some 114, none, .mv (.t 13)⟩,
                                  ⟨some 115, none, .fldA 2 (.t 2)⟩,
                                  ⟨some 116, none, .load false 1 (.t 115)⟩,
                                  ⟨some 117, none, .mv (.t 11)⟩,
                                  ⟨some 118, none, .mv (.t 14)⟩,
                                  ⟨some 119, none, .idxS 3 (.t 116) (.t 117)⟩,
                                  ⟨some 120, none, .idxA 3 1 (.t 119) (.t 118)⟩,
                                  ⟨some 121, none, .load false 1 (.t 120)⟩,
                                  ⟨some 122, none, .fldA 2 (.t 3)⟩,
                                  ⟨some 123, none, .load false 1 (.t 122)⟩,
                                  ⟨some 124, none, .mv (.t 11)⟩,
                                  ⟨some 125, none, .mv (.t 14)⟩,
                                  ⟨some 126, none, .idxS 3 (.t 123) (.t 124)⟩,
                                  ⟨some 127, none, .idxA 3 1 (.t 126) (.t 125)⟩,
                                  ⟨some 128, none, .load false 1 (.t 127)⟩,
                                  ⟨some 129, none, .bin .sub (.t 121) (.t 128)⟩,
                                  ⟨some 130, none, .call 149 [.t 129]⟩,
                                  ⟨some 131, none, .bslice 10 1 1 [.int .i64 0] [(0, .t 130)]⟩,
                                  ⟨some 132, none, .app 10 1 (.t 114) (.t 131)⟩,
                                  ⟨some 13, none, .mv (.t 132)⟩]))
                               (.keep [2, 3, 9, 10, 11, 12, 13, 14]
                                (.ops [⟨some 112, none, .mv (.t 14)⟩,
                                  ⟨some 113, none, .bin .add (.t 112) (.k (.int .i64 1))⟩,
                                  ⟨some 14, none, .mv (.t 113)⟩])))))))))
                        (.keep [2, 3, 9, 10, 11, 12, 13]
                         (.seq
                          (.seq
                           (.ops [⟨some 15, none, .mv (.k (.int .i64 0))⟩])
                           (.keep [2, 3, 9, 10, 11, 12, 13, 15]
                            (.block 4
                             (.loop
                              (.seq
                               (.seq
                                (.ops [⟨some 133, none, .mv (.t 15)⟩,
                                  ⟨some 134, none, .bin .lss (.t 133) (.k (.int .i64 4))⟩])
                                (.cond (.t 134)
                                 .skip
                                 (.exit 4)))
                               (.keep [2, 3, 9, 10, 11, 12, 13, 15]
                                (.seq
                                 (.block 5
                                  (.seq
                                   (.ops [⟨some 137, none, .mv (.t 10)⟩,
                                     ⟨some 138, none, .mv (.t 13)⟩,
                                     ⟨some 139, none, .mv (.t 15)⟩,
                                     ⟨some 140, none, .idxS 1 (.t 138) (.t 139)⟩,
                                     ⟨some 141, none, .load false 1 (.t 140)⟩,
                                     ⟨some 142, none, .mm true [.t 137, .t 141]⟩,
                                     ⟨some 10, none, .mv (.t 142)⟩])
                                   (.keep [2, 3, 9, 10, 11, 12, 13, 15]
                                    (.ops [⟨some 143, none, .mv (.t 12)⟩,
                                      ⟨some 144, none, .mv (.t 143)⟩,
                                      ⟨some 145, some (144, true), .mv (.t 13)⟩,
                                      ⟨some 146, some (144, true), .mv (.t 15)⟩,
                                      ⟨some 147, some (144, true), .idxS 1 (.t 145) (.t 146)⟩,
                                      ⟨some 148, some (144, true), .load false 1 (.t 147)⟩,
                                      ⟨some 149, some (144, true), .bin .eql (.t 148) (.k (.int .i64 0))⟩,
                                      ⟨some 150, none, .pick (.t 144) (.t 149) (.k (.bool false))⟩,
                                      ⟨some 12, none, .mv (.t 150)⟩]))))
                                 (.keep [2, 3, 9, 10, 11, 12, 13, 15]
                                  (.ops [⟨some 135, none, .mv (.t 15)⟩,
                                    ⟨some 136, none, .bin .add (.t 135) (.k (.int .i64 1))⟩,
                                    ⟨some 15, none, .mv (.t 136)⟩])))))))))
                          (.keep [2, 3, 9, 10, 11, 12]
                           (.seq
                            (.ops [⟨some 151, none, .mv (.t 12)⟩,
                              ⟨some 152, none, .un .not (.t 151)⟩])
                            (.cond (.t 152)
                             (.ops [⟨some 153, none, .mv (.t 9)⟩,
                               ⟨some 154, none, .bin .add (.t 153) (.k (.int .i64 1))⟩,
                               ⟨some 9, none, .mv (.t 154)⟩])
                             .skip)))))))))))
                  (.keep [2, 3, 9, 10, 11]
                   (.ops [⟨some 45, none, .mv (.t 11)⟩,
                     ⟨some 46, none, .bin .add (.t 45) (.k (.int .i64 1))⟩,
                     ⟨some 11, none, .mv (.t 46)⟩])))))))))
           (.keep [9, 10]
            (.seq
             (.ops [⟨some 155, none, .mv (.t 9)⟩,
               ⟨some 156, none, .mv (.t 10)⟩,
               ⟨some 4, none, .mv (.t 155)⟩,
               ⟨some 5, none, .mv (.t 156)⟩,
               ⟨some 6, none, .mv (.k (.int .i64 0))⟩])
             (.keep [4, 5, 6]
              .ret))))))))))))) }
structure N124 (R : Env) : Prop where
  o124 : R.Fn 124 c124
  n140 : N140 R
  n149 : N149 R
/-- umbra.umbraref38.Stack -/
def c128 : IFn := { np := 1, rs := [.cell 2 true 8, .t 3], body :=
 (.seq
  (.ops [⟨some 2, none, .alloc 16 [.int .i64 0, .int .i64 0, .nils, .nils, .nils, .nils, .nils, .nils]⟩,
    ⟨some 3, none, .mv (.k (.int .i64 0))⟩])
  (.seq
   (.seq
    (.ops [⟨some 9, none, .mv (.t 0)⟩,
      ⟨some 10, none, .lenS (.t 9)⟩,
      ⟨some 11, none, .bin .eql (.t 10) (.k (.int .i64 0))⟩])
    (.cond (.t 11)
     (.seq
      (.ops [⟨some 12, none, .build [.int .i64 0, .int .i64 0, .nils, .nils, .nils, .nils, .nils, .nils] []⟩,
        ⟨none, none, .store 8 (.t 2) (.t 12)⟩,
        ⟨some 3, none, .mv (.k (.int .i64 2))⟩])
      .ret)
     .skip))
   (.keep [0, 2]
    (.seq
     (.ops [⟨some 13, none, .mv (.t 0)⟩,
       ⟨some 14, none, .mv (.t 0)⟩,
       ⟨some 15, none, .lenS (.t 14)⟩,
       ⟨some 16, none, .bin .sub (.t 15) (.k (.int .i64 1))⟩,
       ⟨some 17, none, .idxS 8 (.t 13) (.t 16)⟩,
       ⟨some 18, none, .load true 8 (.t 17)⟩,
       ⟨some 4, none, .alloc 16 [.int .i64 0, .int .i64 0, .nils, .nils, .nils, .nils, .nils, .nils]⟩,
       ⟨none, none, .store 8 (.t 4) (.t 18)⟩])
     (.keep [0, 2, 4]
      (.seq
       (.seq
        (.ops [⟨some 19, none, .load true 8 (.t 4)⟩,
          ⟨some 20, none, .call 140 [.t 19]⟩,
          ⟨some 5, none, .mv (.t 20)⟩])
        (.seq
         (.ops [⟨some 21, none, .mv (.t 5)⟩,
           ⟨some 22, none, .bin .neq (.t 21) (.k (.int .i64 0))⟩])
         (.cond (.t 22)
          (.seq
           (.ops [⟨some 23, none, .build [.int .i64 0, .int .i64 0, .nils, .nils, .nils, .nils, .nils, .nils] []⟩,
             ⟨some 24, none, .mv (.t 5)⟩,
             ⟨none, none, .store 8 (.t 2) (.t 23)⟩,
             ⟨some 3, none, .mv (.t 24)⟩])
           .ret)
          .skip)))
       (.keep [0, 2, 4]
        (.seq
         (.seq
          (.ops [⟨some 25, none, .mv (.t 0)⟩,
            ⟨some 26, none, .lenS (.t 25)⟩,
            ⟨some 27, none, .bin .sub (.t 26) (.k (.int .i64 2))⟩,
            ⟨some 6, none, .mv (.t 27)⟩])
          (.keep [0, 2, 4, 6]
           (.block 0
            (.loop
             (.seq
              (.seq
               (.ops [⟨some 28, none, .mv (.t 6)⟩,
                 ⟨some 29, none, .bin .geq (.t 28) (.k (.int .i64 0))⟩])
               (.cond (.t 29)
                .skip
                (.exit 0)))
              (.keep [0, 2, 4, 6]
               (.seq
                (.block 1
                 (.seq
                  (.draw [0, 0, 3, 7, 0, 31, 63, 127, 127, 0, 767, 2047] [[0], [6], [33, 34], [35], [4], [36, 37], [38], [32], [32], [], [7, 39], [40]] [⟨some 33, none, .mv (.t 0)⟩,
                    ⟨some 34, none, .mv (.t 6)⟩,
                    ⟨some 35, none, .idxS 8 (.t 33) (.t 34)⟩,
                    ⟨some 36, none, .load true 8 (.t 35)⟩,
                    ⟨some 37, none, .load true 8 (.t 4)⟩,
                    ⟨some 38, none, .call 122 [.t 36, .t 37]⟩,
                    ⟨some 32, none, .mv (.t 38)⟩,
                    ⟨some 39, none, .ext (.t 32) 0⟩,
                    ⟨some 40, none, .ext (.t 32) 1⟩,
                    ⟨some 7, none, .alloc 16 [.int .i64 0, .int .i64 0, .nils, .nils, .nils, .nils, .nils, .nils]⟩,
                    ⟨none, none, .store 8 (.t 7) (.t 39)⟩,
                    ⟨some 8, none, .mv (.t 40)⟩])
                  (.keep [0, 2, 4, 6, 7, 8]
                   (.seq
                    (.seq
                     (.ops [⟨some 41, none, .mv (.t 8)⟩,
                       ⟨some 42, none, .bin .neq (.t 41) (.k (.int .i64 0))⟩])
                     (.cond (.t 42)
                      (.seq
                       (.ops [⟨some 43, none, .build [.int .i64 0, .int .i64 0, .nils, .nils, .nils, .nils, .nils, .nils] []⟩,
                         ⟨some 44, none, .mv (.t 8)⟩,
                         ⟨none, none, .store 8 (.t 2) (.t 43)⟩,
                         ⟨some 3, none, .mv (.t 44)⟩])
                       .ret)
                      .skip))
                    (.keep [0, 2, 4, 6, 7]
                     (.ops [⟨some 45, none, .load true 8 (.t 7)⟩,
                       ⟨none, none, .store 8 (.t 4) (.t 45)⟩]))))))
                (.keep [0, 2, 4, 6]
                 (.ops [⟨some 30, none, .mv (.t 6)⟩,
                   ⟨some 31, none, .bin .sub (.t 30) (.k (.int .i64 1))⟩,
                   ⟨some 6, none, .mv (.t 31)⟩])))))))))
         (.keep [2, 4]
          (.seq
           (.ops [⟨some 46, none, .load true 8 (.t 4)⟩,
             ⟨none, none, .store 8 (.t 2) (.t 46)⟩,
             ⟨some 3, none, .mv (.k (.int .i64 0))⟩])
           .ret)))))))))) }
structure N128 (R : Env) : Prop where
  o128 : R.Fn 128 c128
  n122 : N122 R
  n140 : N140 R
/-- umbra.umbraref38.Clear -/
def c130 : IFn := { np := 2, rs := [.cell 4 true 8, .t 5], body :=
 (.seq
  (.ops [⟨some 4, none, .alloc 16 [.int .i64 0, .int .i64 0, .nils, .nils, .nils, .nils, .nils, .nils]⟩,
    ⟨some 5, none, .mv (.k (.int .i64 0))⟩])
  (.seq
   (.seq
    (.ops [⟨some 8, none, .mv (.t 0)⟩,
      ⟨some 9, none, .bin .lss (.t 8) (.k (.int .i64 1))⟩,
      ⟨some 10, none, .mv (.t 9)⟩,
      ⟨some 11, some (10, false), .mv (.t 0)⟩,
      ⟨some 12, some (10, false), .bin .gtr (.t 11) (.k (.int .i64 64))⟩,
      ⟨some 13, none, .pick (.t 10) (.k (.bool true)) (.t 12)⟩,
      ⟨some 14, none, .mv (.t 13)⟩,
      ⟨some 15, some (14, false), .mv (.t 1)⟩,
      ⟨some 16, some (14, false), .bin .lss (.t 15) (.k (.int .i64 1))⟩,
      ⟨some 17, none, .pick (.t 14) (.k (.bool true)) (.t 16)⟩,
      ⟨some 18, none, .mv (.t 17)⟩,
      ⟨some 19, some (18, false), .mv (.t 1)⟩,
      ⟨some 20, some (18, false), .bin .gtr (.t 19) (.k (.int .i64 64))⟩,
      ⟨some 21, none, .pick (.t 18) (.k (.bool true)) (.t 20)⟩])
    (.keep [0, 1, 4, 21]
     (.cond (.t 21)
      (.seq
       (.ops [⟨some 22, none, .build [.int .i64 0, .int .i64 0, .nils, .nils, .nils, .nils, .nils, .nils] []⟩,
         ⟨none, none, .store 8 (.t 4) (.t 22)⟩,
         ⟨some 5, none, .mv (.k (.int .i64 2))⟩])
       .ret)
      .skip)))
   (.keep [0, 1, 4]
    (.seq
     (.ops [⟨some 23, none, .mv (.t 0)⟩,
       ⟨some 24, none, .mv (.t 1)⟩,
       ⟨some 25, none, .build [.int .i64 0, .int .i64 0, .nils, .nils, .nils, .nils, .nils, .nils] [(0, 1, .t 23), (1, 1, .t 24)]⟩,
       ⟨some 6, none, .alloc 16 [.int .i64 0, .int .i64 0, .nils, .nils, .nils, .nils, .nils, .nils]⟩,
       ⟨none, none, .store 8 (.t 6) (.t 25)⟩])
     (.keep [0, 1, 4, 6]
      (.seq
       (.seq
        (.ops [⟨some 7, none, .mv (.k (.int .i64 0))⟩])
        (.keep [0, 1, 4, 6, 7]
         (.block 0
          (.loop
           (.seq
            (.seq
             (.ops [⟨some 26, none, .mv (.t 7)⟩,
               ⟨some 27, none, .mv (.t 0)⟩,
               ⟨some 28, none, .mv (.t 1)⟩,
               ⟨some 29, none, .bin .mul (.t 27) (.t 28)⟩,
               ⟨some 30, none, .bin .lss (.t 26) (.t 29)⟩])
             (.keep [0, 1, 4, 6, 7, 30]
              (.cond (.t 30)
               .skip
               (.exit 0))))
            (.keep [0, 1, 4, 6, 7]
             (.seq
              (.block 1
               (.seq
                (.ops [⟨some 33, none, .fldA 2 (.t 6)⟩,
                  ⟨some 34, none, .load false 1 (.t 33)⟩,
                  ⟨some 35, none, .build [.int .i64 0, .int .i64 0, .int .i64 0] []⟩,
                  ⟨some 36, none, .bslice 13 3 1 [.int .i64 0, .int .i64 0, .int .i64 0] [(0, .t 35)]⟩,
                  ⟨some 37, none, .app 13 3 (.t 34) (.t 36)⟩,
                  ⟨some 38, none, .fldA 2 (.t 6)⟩,
                  ⟨none, none, .store 1 (.t 38) (.t 37)⟩])
                (.keep [0, 1, 4, 6, 7]
                 (.seq
                  (.ops [⟨some 39, none, .fldA 5 (.t 6)⟩,
                    ⟨some 40, none, .load false 1 (.t 39)⟩,
                    ⟨some 41, none, .build [.int .i64 0, .int .i64 0, .int .i64 0] []⟩,
                    ⟨some 42, none, .bslice 13 3 1 [.int .i64 0, .int .i64 0, .int .i64 0] [(0, .t 41)]⟩,
                    ⟨some 43, none, .app 13 3 (.t 40) (.t 42)⟩,
                    ⟨some 44, none, .fldA 5 (.t 6)⟩,
                    ⟨none, none, .store 1 (.t 44) (.t 43)⟩])
                  (.keep [0, 1, 4, 6, 7]
                   (.seq
                    (.ops [⟨some 45, none, .fldA 3 (.t 6)⟩,
                      ⟨some 46, none, .load false 1 (.t 45)⟩,
                      ⟨some 47, none, .bslice 10 1 1 [.int .i64 0] [(0, .k (.int .i64 0))]⟩,
                      ⟨some 48, none, .app 10 1 (.t 46) (.t 47)⟩,
                      ⟨some 49, none, .fldA 3 (.t 6)⟩,
                      ⟨none, none, .store 1 (.t 49) (.t 48)⟩])
                    (.keep [0, 1, 4, 6, 7]
                     (.seq
                      (.ops [⟨some 50, none, .fldA 4 (.t 6)⟩,
                        ⟨some 51, none, .load false 1 (.t 50)⟩,
                        ⟨some 52, none, .bslice 10 1 1 [.int .i64 0] [(0, .k (.int .i64 0))]⟩,
                        ⟨some 53, none, .app 10 1 (.t 51) (.t 52)⟩,
                        ⟨some 54, none, .fldA 4 (.t 6)⟩,
                        ⟨none, none, .store 1 (.t 54) (.t 53)⟩])
                      (.keep [0, 1, 4, 6, 7]
                       (.seq
                        (.ops [⟨some 55, none, .fldA 6 (.t 6)⟩,
                          ⟨some 56, none, .load false 1 (.t 55)⟩,
                          ⟨some 57, none, .bslice 10 1 1 [.int .i64 0] [(0, .k (.int .i64 0))]⟩,
                          ⟨some 58, none, .app 10 1 (.t 56) (.t 57)⟩,
                          ⟨some 59, none, .fldA 6 (.t 6)⟩,
                          ⟨none, none, .store 1 (.t 59) (.t 58)⟩])
                        (.keep [0, 1, 4, 6, 7]
                         (.ops [⟨some 60, none, .fldA 7 (.t 6)⟩,
                           ⟨some 61, none, .load false 1 (.t 60)⟩,
                           ⟨some 62, none, .bslice 10 1 1 [.int .i64 0] [(0, .k (.int .i64 0))]⟩,
                           ⟨some 63, none, .app 10 1 (.t 61) (.t 62)⟩,
                           ⟨some 64, none, .fldA 7 (.t 6)⟩,
                           ⟨none, none, .store 1 (.t 64) (.t 63)⟩]))))))))))))
              (.keep [0, 1, 4, 6, 7]
               (.ops [⟨some 31, none, .mv (.t 7)⟩,
                 ⟨some 32, none, .bin .add (.t 31) (.k (.int .i64 1))⟩,
                 ⟨some 7, none, .mv (.t 32)⟩])))))))))
       (.keep [4, 6]
        (.seq
         (.ops [⟨some 65, none, .load true 8 (.t 6)⟩,
           ⟨none, none, .store 8 (.t 4) (.t 65)⟩,
           ⟨some 5, none, .mv (.k (.int .i64 0))⟩])
         .ret)))))))) }
structure N130 (R : Env) : Prop where
  o130 : R.Fn 130 c130
end Go.UM

/- The resolved code of package umbralaw38, function by function; numbers are those of the register, the same for all programs. -/






namespace Go.UM
open Go.AM
/-- umbra.umbralaw38.works -/
def c110 : IFn := { np := 0, rs := [.t 0], body :=
 (.seq
  (.ops [⟨some 0, none, .mv (.k (.bool false))⟩])
  (.seq
   (.ops [⟨some 1, none, .call 109 [.k (.int .i64 10), .k (.int .i64 65535), .k (.int .i64 65535)]⟩,
     ⟨some 2, none, .bin .eql (.t 1) (.k (.int .i64 10))⟩,
     ⟨some 3, none, .mv (.t 2)⟩,
     ⟨some 4, some (3, true), .call 109 [.k (.int .i64 0), .k (.int .i64 65535), .k (.int .i64 0)]⟩,
     ⟨some 5, some (3, true), .bin .eql (.t 4) (.k (.int .i64 65535))⟩,
     ⟨some 6, none, .pick (.t 3) (.t 5) (.k (.bool false))⟩,
     ⟨some 0, none, .mv (.t 6)⟩])
   (.keep [0]
    .ret))) }
structure N110 (R : Env) : Prop where
  o110 : R.Fn 110 c110
  n109 : N109 R
/-- umbra.umbralaw38.OverBetween -/
def c108 : IFn := { np := 3, rs := [.t 6], body :=
 (.seq
  (.ops [⟨some 5, none, .box 15 (.t 2)⟩,
    ⟨some 6, none, .mv (.k (.bool false))⟩])
  (.seq
   (.draw [0, 1, 0, 4, 15, 31, 0, 64, 0, 256, 960, 1984, 63, 8191] [[5], [11], [5], [13], [12, 14], [15], [5], [17], [5], [19], [18, 20], [21], [16], [22]] [⟨some 11, none, .idxA 2 1 (.t 5) (.k (.int .i64 0))⟩,
     ⟨some 12, none, .load false 1 (.t 11)⟩,
     ⟨some 13, none, .idxA 2 1 (.t 5) (.k (.int .i64 1))⟩,
     ⟨some 14, none, .load false 1 (.t 13)⟩,
     ⟨some 15, none, .mm false [.t 12, .t 14]⟩,
     ⟨some 16, none, .conv .i64 (.t 15)⟩,
     ⟨some 17, none, .idxA 2 1 (.t 5) (.k (.int .i64 0))⟩,
     ⟨some 18, none, .load false 1 (.t 17)⟩,
     ⟨some 19, none, .idxA 2 1 (.t 5) (.k (.int .i64 1))⟩,
     ⟨some 20, none, .load false 1 (.t 19)⟩,
     ⟨some 21, none, .mm true [.t 18, .t 20]⟩,
     ⟨some 22, none, .conv .i64 (.t 21)⟩,
     ⟨some 7, none, .mv (.t 16)⟩,
     ⟨some 8, none, .mv (.t 22)⟩])
   (.keep [0, 1, 7, 8]
    (.seq
     (.ops [⟨some 23, none, .mv (.t 0)⟩,
       ⟨some 24, none, .conv .i64 (.t 23)⟩,
       ⟨some 25, none, .mv (.t 1)⟩,
       ⟨some 26, none, .conv .i64 (.t 25)⟩,
       ⟨some 27, none, .mv (.t 7)⟩,
       ⟨some 28, none, .call 109 [.t 24, .t 26, .t 27]⟩,
       ⟨some 29, none, .mv (.t 0)⟩,
       ⟨some 30, none, .conv .i64 (.t 29)⟩,
       ⟨some 31, none, .mv (.t 1)⟩,
       ⟨some 32, none, .conv .i64 (.t 31)⟩,
       ⟨some 33, none, .mv (.t 8)⟩,
       ⟨some 34, none, .call 109 [.t 30, .t 32, .t 33]⟩,
       ⟨some 9, none, .mv (.t 28)⟩,
       ⟨some 10, none, .mv (.t 34)⟩])
     (.keep [0, 1, 9, 10]
      (.seq
       (.ops [⟨some 35, none, .mv (.t 9)⟩,
         ⟨some 36, none, .mv (.t 10)⟩,
         ⟨some 37, none, .bin .geq (.t 35) (.t 36)⟩,
         ⟨some 38, none, .mv (.t 37)⟩,
         ⟨some 39, some (38, true), .mv (.t 10)⟩,
         ⟨some 40, some (38, true), .mv (.t 0)⟩,
         ⟨some 41, some (38, true), .conv .i64 (.t 40)⟩,
         ⟨some 42, some (38, true), .bin .geq (.t 39) (.t 41)⟩,
         ⟨some 43, none, .pick (.t 38) (.t 42) (.k (.bool false))⟩,
         ⟨some 44, none, .mv (.t 43)⟩,
         ⟨some 45, some (44, true), .mv (.t 9)⟩,
         ⟨some 46, some (44, true), .mv (.t 0)⟩,
         ⟨some 47, some (44, true), .conv .i64 (.t 46)⟩,
         ⟨some 48, some (44, true), .mv (.t 1)⟩,
         ⟨some 49, some (44, true), .conv .i64 (.t 48)⟩,
         ⟨some 50, some (44, true), .bin .add (.t 47) (.t 49)⟩,
         ⟨some 51, some (44, true), .mm false [.t 50, .k (.int .i64 65535)]⟩,
         ⟨some 52, some (44, true), .bin .leq (.t 45) (.t 51)⟩,
         ⟨some 53, none, .pick (.t 44) (.t 52) (.k (.bool false))⟩,
         ⟨some 54, none, .mv (.t 53)⟩,
         ⟨some 55, some (54, true), .call 110 []⟩,
         ⟨some 56, none, .pick (.t 54) (.t 55) (.k (.bool false))⟩,
         ⟨some 6, none, .mv (.t 56)⟩])
       (.keep [6]
        .ret))))))) }
structure N108 (R : Env) : Prop where
  o108 : R.Fn 108 c108
  n109 : N109 R
  n110 : N110 R
/-- umbra.umbralaw38.few -/
def c112 : IFn := { np := 1, rs := [.cell 2 true 8], body :=
 (.seq
  (.ops [⟨some 1, none, .box 16 (.t 0)⟩,
    ⟨some 2, none, .alloc 16 [.int .i64 0, .int .i64 0, .nils, .nils, .nils, .nils, .nils, .nils]⟩])
  (.seq
   (.ops [⟨some 3, none, .load true 8 (.t 1)⟩,
     ⟨some 4, none, .call 135 [.t 3]⟩,
     ⟨none, none, .store 8 (.t 2) (.t 4)⟩])
   .ret)) }
structure N112 (R : Env) : Prop where
  o112 : R.Fn 112 c112
  n135 : N135 R
/-- umbra.umbralaw38.OverCrops -/
def c111 : IFn := { np := 3, rs := [.t 6], body :=
 (.seq
  (.ops [⟨some 3, none, .box 16 (.t 0)⟩,
    ⟨some 4, none, .box 16 (.t 1)⟩,
    ⟨some 5, none, .box 17 (.t 2)⟩,
    ⟨some 6, none, .mv (.k (.bool false))⟩])
  (.seq
   (.draw [0, 1, 0, 7, 15, 31] [[3], [15], [4], [17], [3, 16], [4, 18]] [⟨some 15, none, .load true 8 (.t 3)⟩,
     ⟨some 16, none, .call 112 [.t 15]⟩,
     ⟨some 17, none, .load true 8 (.t 4)⟩,
     ⟨some 18, none, .call 112 [.t 17]⟩,
     ⟨none, none, .store 8 (.t 3) (.t 16)⟩,
     ⟨none, none, .store 8 (.t 4) (.t 18)⟩])
   (.keep [3, 4, 5]
    (.seq
     (.ops [⟨some 20, none, .load true 8 (.t 3)⟩,
       ⟨some 21, none, .idxA 4 1 (.t 5) (.k (.int .i64 0))⟩,
       ⟨some 22, none, .load false 1 (.t 21)⟩,
       ⟨some 23, none, .idxA 4 1 (.t 5) (.k (.int .i64 1))⟩,
       ⟨some 24, none, .load false 1 (.t 23)⟩,
       ⟨some 25, none, .idxA 4 1 (.t 5) (.k (.int .i64 2))⟩,
       ⟨some 26, none, .load false 1 (.t 25)⟩,
       ⟨some 27, none, .idxA 4 1 (.t 5) (.k (.int .i64 3))⟩,
       ⟨some 28, none, .load false 1 (.t 27)⟩,
       ⟨some 29, none, .call 113 [.t 20, .t 22, .t 24, .t 26, .t 28]⟩,
       ⟨some 19, none, .mv (.t 29)⟩,
       ⟨some 30, none, .ext (.t 19) 0⟩,
       ⟨some 31, none, .ext (.t 19) 1⟩,
       ⟨some 7, none, .alloc 16 [.int .i64 0, .int .i64 0, .nils, .nils, .nils, .nils, .nils, .nils]⟩,
       ⟨none, none, .store 8 (.t 7) (.t 30)⟩,
       ⟨some 8, none, .mv (.t 31)⟩])
     (.keep [3, 4, 5, 7, 8]
      (.seq
       (.ops [⟨some 33, none, .load true 8 (.t 3)⟩,
         ⟨some 34, none, .idxA 4 1 (.t 5) (.k (.int .i64 0))⟩,
         ⟨some 35, none, .load false 1 (.t 34)⟩,
         ⟨some 36, none, .idxA 4 1 (.t 5) (.k (.int .i64 1))⟩,
         ⟨some 37, none, .load false 1 (.t 36)⟩,
         ⟨some 38, none, .idxA 4 1 (.t 5) (.k (.int .i64 2))⟩,
         ⟨some 39, none, .load false 1 (.t 38)⟩,
         ⟨some 40, none, .idxA 4 1 (.t 5) (.k (.int .i64 3))⟩,
         ⟨some 41, none, .load false 1 (.t 40)⟩,
         ⟨some 42, none, .call 114 [.t 33, .t 35, .t 37, .t 39, .t 41]⟩,
         ⟨some 32, none, .mv (.t 42)⟩,
         ⟨some 43, none, .ext (.t 32) 0⟩,
         ⟨some 44, none, .ext (.t 32) 1⟩,
         ⟨some 9, none, .alloc 16 [.int .i64 0, .int .i64 0, .nils, .nils, .nils, .nils, .nils, .nils]⟩,
         ⟨none, none, .store 8 (.t 9) (.t 43)⟩,
         ⟨some 10, none, .mv (.t 44)⟩])
       (.keep [3, 4, 5, 7, 8, 9, 10]
        (.seq
         (.ops [⟨some 46, none, .load true 8 (.t 3)⟩,
           ⟨some 47, none, .load true 8 (.t 4)⟩,
           ⟨some 48, none, .idxA 4 1 (.t 5) (.k (.int .i64 0))⟩,
           ⟨some 49, none, .load false 1 (.t 48)⟩,
           ⟨some 50, none, .idxA 4 1 (.t 5) (.k (.int .i64 1))⟩,
           ⟨some 51, none, .load false 1 (.t 50)⟩,
           ⟨some 52, none, .call 115 [.t 46, .t 47, .t 49, .t 51]⟩,
           ⟨some 45, none, .mv (.t 52)⟩,
           ⟨some 53, none, .ext (.t 45) 0⟩,
           ⟨some 54, none, .ext (.t 45) 1⟩,
           ⟨some 11, none, .alloc 16 [.int .i64 0, .int .i64 0, .nils, .nils, .nils, .nils, .nils, .nils]⟩,
           ⟨none, none, .store 8 (.t 11) (.t 53)⟩,
           ⟨some 12, none, .mv (.t 54)⟩])
         (.keep [3, 4, 5, 7, 8, 9, 10, 11, 12]
          (.seq
           (.ops [⟨some 56, none, .load true 8 (.t 3)⟩,
             ⟨some 57, none, .load true 8 (.t 4)⟩,
             ⟨some 58, none, .idxA 4 1 (.t 5) (.k (.int .i64 0))⟩,
             ⟨some 59, none, .load false 1 (.t 58)⟩,
             ⟨some 60, none, .idxA 4 1 (.t 5) (.k (.int .i64 1))⟩,
             ⟨some 61, none, .load false 1 (.t 60)⟩,
             ⟨some 62, none, .call 116 [.t 56, .t 57, .t 59, .t 61]⟩,
             ⟨some 55, none, .mv (.t 62)⟩,
             ⟨some 63, none, .ext (.t 55) 0⟩,
             ⟨some 64, none, .ext (.t 55) 1⟩,
             ⟨some 13, none, .alloc 16 [.int .i64 0, .int .i64 0, .nils, .nils, .nils, .nils, .nils, .nils]⟩,
             ⟨none, none, .store 8 (.t 13) (.t 63)⟩,
             ⟨some 14, none, .mv (.t 64)⟩])
           (.keep [7, 8, 9, 10, 11, 12, 13, 14]
            (.seq
             (.ops [⟨some 65, none, .load true 8 (.t 7)⟩,
               ⟨some 66, none, .load true 8 (.t 9)⟩,
               ⟨some 67, none, .call 117 [.t 65, .t 66]⟩,
               ⟨some 68, none, .mv (.t 67)⟩,
               ⟨some 69, some (68, true), .mv (.t 8)⟩,
               ⟨some 70, some (68, true), .mv (.t 10)⟩,
               ⟨some 71, some (68, true), .bin .eql (.t 69) (.t 70)⟩,
               ⟨some 72, none, .pick (.t 68) (.t 71) (.k (.bool false))⟩,
               ⟨some 73, none, .mv (.t 72)⟩,
               ⟨some 74, some (73, true), .load true 8 (.t 11)⟩,
               ⟨some 75, some (73, true), .load true 8 (.t 13)⟩,
               ⟨some 76, some (73, true), .call 117 [.t 74, .t 75]⟩,
               ⟨some 77, none, .pick (.t 73) (.t 76) (.k (.bool false))⟩,
               ⟨some 78, none, .mv (.t 77)⟩,
               ⟨some 79, some (78, true), .mv (.t 12)⟩,
               ⟨some 80, some (78, true), .mv (.t 14)⟩,
               ⟨some 81, some (78, true), .bin .eql (.t 79) (.t 80)⟩,
               ⟨some 82, none, .pick (.t 78) (.t 81) (.k (.bool false))⟩,
               ⟨some 83, none, .mv (.t 82)⟩,
               ⟨some 84, some (83, true), .call 110 []⟩,
               ⟨some 85, none, .pick (.t 83) (.t 84) (.k (.bool false))⟩,
               ⟨some 6, none, .mv (.t 85)⟩])
             (.keep [6]
              .ret))))))))))))) }
structure N111 (R : Env) : Prop where
  o111 : R.Fn 111 c111
  n110 : N110 R
  n112 : N112 R
  n113 : N113 R
  n114 : N114 R
  n115 : N115 R
  n116 : N116 R
  n117 : N117 R
/-- umbra.umbralaw38.OverHides -/
def c118 : IFn := { np := 2, rs := [.t 4], body :=
 (.seq
  (.ops [⟨some 2, none, .box 16 (.t 0)⟩,
    ⟨some 3, none, .box 16 (.t 1)⟩,
    ⟨some 4, none, .mv (.k (.bool false))⟩])
  (.seq
   (.draw [0, 1, 0, 7, 15, 31] [[2], [8], [3], [10], [2, 9], [3, 11]] [⟨some 8, none, .load true 8 (.t 2)⟩,
     ⟨some 9, none, .call 112 [.t 8]⟩,
     ⟨some 10, none, .load true 8 (.t 3)⟩,
     ⟨some 11, none, .call 112 [.t 10]⟩,
     ⟨none, none, .store 8 (.t 2) (.t 9)⟩,
     ⟨none, none, .store 8 (.t 3) (.t 11)⟩])
   (.keep [2, 3]
    (.seq
     (.ops [⟨some 5, none, .mv (.k (.nils))⟩])
     (.seq
      (.seq
       (.ops [⟨some 12, none, .fldA 3 (.t 2)⟩,
         ⟨some 13, none, .load false 1 (.t 12)⟩,
         ⟨some 14, none, .lenS (.t 13)⟩,
         ⟨some 15, none, .mv (.k (.int .i64 0))⟩])
       (.keep [2, 3, 5, 14, 15]
        (.block 0
         (.loop
          (.seq
           (.ops [⟨some 16, none, .bin .lss (.t 15) (.t 14)⟩])
           (.seq
            (.cond (.t 16)
             .skip
             (.exit 0))
            (.keep [2, 3, 5, 14, 15]
             (.seq
              (.block 1
               (.ops [⟨some 17, none, .mv (.t 5)⟩,
                 ⟨some 18, none, .bslice 10 1 1 [.int .i64 0] [(0, .k (.int .i64 65535))]⟩,
                 ⟨some 19, none, .app 10 1 (.t 17) (.t 18)⟩,
                 ⟨some 5, none, .mv (.t 19)⟩]))
              (.keep [2, 3, 5, 14, 15]
               (.ops [⟨some 20, none, .bin .add (.t 15) (.k (.int .i64 1))⟩,
                 ⟨some 15, none, .mv (.t 20)⟩]))))))))))
      (.keep [2, 3, 5]
       (.seq
        (.ops [⟨some 21, none, .mv (.t 5)⟩,
          ⟨some 22, none, .fldA 3 (.t 2)⟩,
          ⟨none, none, .store 1 (.t 22) (.t 21)⟩])
        (.seq
         (.ops [⟨some 24, none, .load true 8 (.t 2)⟩,
           ⟨some 25, none, .load true 8 (.t 3)⟩,
           ⟨some 26, none, .call 119 [.t 24, .t 25]⟩,
           ⟨some 23, none, .mv (.t 26)⟩,
           ⟨some 27, none, .ext (.t 23) 0⟩,
           ⟨some 28, none, .ext (.t 23) 1⟩,
           ⟨some 6, none, .alloc 16 [.int .i64 0, .int .i64 0, .nils, .nils, .nils, .nils, .nils, .nils]⟩,
           ⟨none, none, .store 8 (.t 6) (.t 27)⟩,
           ⟨some 7, none, .mv (.t 28)⟩])
         (.keep [2, 6, 7]
          (.seq
           (.seq
            (.ops [⟨some 29, none, .mv (.t 7)⟩,
              ⟨some 30, none, .bin .neq (.t 29) (.k (.int .i64 0))⟩])
            (.cond (.t 30)
             (.seq
              (.ops [⟨some 31, none, .load true 8 (.t 6)⟩,
                ⟨some 32, none, .build [.int .i64 0, .int .i64 0, .nils, .nils, .nils, .nils, .nils, .nils] []⟩,
                ⟨some 33, none, .call 120 [.t 31, .t 32]⟩,
                ⟨some 34, none, .mv (.t 33)⟩,
                ⟨some 35, some (34, true), .call 110 []⟩,
                ⟨some 36, none, .pick (.t 34) (.t 35) (.k (.bool false))⟩,
                ⟨some 4, none, .mv (.t 36)⟩])
              (.keep [4]
               .ret))
             .skip))
           (.keep [2, 6]
            (.seq
             (.ops [⟨some 37, none, .load true 8 (.t 6)⟩,
               ⟨some 38, none, .load true 8 (.t 2)⟩,
               ⟨some 39, none, .call 120 [.t 37, .t 38]⟩,
               ⟨some 40, none, .mv (.t 39)⟩,
               ⟨some 41, some (40, true), .call 110 []⟩,
               ⟨some 42, none, .pick (.t 40) (.t 41) (.k (.bool false))⟩,
               ⟨some 4, none, .mv (.t 42)⟩])
             (.keep [4]
              .ret))))))))))))) }
structure N118 (R : Env) : Prop where
  o118 : R.Fn 118 c118
  n110 : N110 R
  n112 : N112 R
  n119 : N119 R
  n120 : N120 R
/-- umbra.umbralaw38.OverMixes -/
def c121 : IFn := { np := 3, rs := [.t 6], body :=
 (.seq
  (.ops [⟨some 3, none, .box 16 (.t 0)⟩,
    ⟨some 4, none, .box 16 (.t 1)⟩,
    ⟨some 5, none, .box 13 (.t 2)⟩,
    ⟨some 6, none, .mv (.k (.bool false))⟩])
  (.seq
   (.draw [0, 1, 0, 7, 15, 31] [[3], [17], [4], [19], [3, 18], [4, 20]] [⟨some 17, none, .load true 8 (.t 3)⟩,
     ⟨some 18, none, .call 112 [.t 17]⟩,
     ⟨some 19, none, .load true 8 (.t 4)⟩,
     ⟨some 20, none, .call 112 [.t 19]⟩,
     ⟨none, none, .store 8 (.t 3) (.t 18)⟩,
     ⟨none, none, .store 8 (.t 4) (.t 20)⟩])
   (.keep [3, 4, 5]
    (.seq
     (.ops [⟨some 22, none, .load true 8 (.t 3)⟩,
       ⟨some 23, none, .load true 8 (.t 4)⟩,
       ⟨some 24, none, .call 119 [.t 22, .t 23]⟩,
       ⟨some 21, none, .mv (.t 24)⟩,
       ⟨some 25, none, .ext (.t 21) 0⟩,
       ⟨some 26, none, .ext (.t 21) 1⟩,
       ⟨some 7, none, .alloc 16 [.int .i64 0, .int .i64 0, .nils, .nils, .nils, .nils, .nils, .nils]⟩,
       ⟨none, none, .store 8 (.t 7) (.t 25)⟩,
       ⟨some 8, none, .mv (.t 26)⟩])
     (.keep [3, 4, 5, 7, 8]
      (.seq
       (.ops [⟨some 28, none, .load true 8 (.t 3)⟩,
         ⟨some 29, none, .load true 8 (.t 4)⟩,
         ⟨some 30, none, .call 122 [.t 28, .t 29]⟩,
         ⟨some 27, none, .mv (.t 30)⟩,
         ⟨some 31, none, .ext (.t 27) 0⟩,
         ⟨some 32, none, .ext (.t 27) 1⟩,
         ⟨some 9, none, .alloc 16 [.int .i64 0, .int .i64 0, .nils, .nils, .nils, .nils, .nils, .nils]⟩,
         ⟨none, none, .store 8 (.t 9) (.t 31)⟩,
         ⟨some 10, none, .mv (.t 32)⟩])
       (.keep [3, 4, 5, 7, 8, 9, 10]
        (.seq
         (.ops [⟨some 34, none, .load true 8 (.t 3)⟩,
           ⟨some 35, none, .load true 8 (.t 4)⟩,
           ⟨some 36, none, .call 123 [.t 34, .t 35]⟩,
           ⟨some 33, none, .mv (.t 36)⟩,
           ⟨some 37, none, .ext (.t 33) 0⟩,
           ⟨some 38, none, .ext (.t 33) 1⟩,
           ⟨some 39, none, .ext (.t 33) 2⟩,
           ⟨some 11, none, .mv (.t 37)⟩,
           ⟨some 12, none, .mv (.t 38)⟩,
           ⟨some 13, none, .mv (.t 39)⟩])
         (.keep [3, 4, 5, 7, 8, 9, 10, 11, 12, 13]
          (.seq
           (.ops [⟨some 41, none, .load true 8 (.t 3)⟩,
             ⟨some 42, none, .load true 8 (.t 4)⟩,
             ⟨some 43, none, .call 124 [.t 41, .t 42]⟩,
             ⟨some 40, none, .mv (.t 43)⟩,
             ⟨some 44, none, .ext (.t 40) 0⟩,
             ⟨some 45, none, .ext (.t 40) 1⟩,
             ⟨some 46, none, .ext (.t 40) 2⟩,
             ⟨some 14, none, .mv (.t 44)⟩,
             ⟨some 15, none, .mv (.t 45)⟩,
             ⟨some 16, none, .mv (.t 46)⟩])
           (.keep [5, 7, 8, 9, 10, 11, 12, 13, 14, 15, 16]
            (.seq
             (.draw [0, 1, 0, 4, 0, 16, 63, 0, 128, 0, 512, 0, 2048, 8191, 16383, 32767, 65535, 65535, 262143, 524287, 1048575, 2097151, 2097151, 8388607, 16777215, 33554431, 67108863, 67108863, 268435455, 536870911, 1073741823, 2147483647, 2147483647, 8589934591, 17179869183, 34359738367, 68719476735, 68719476735, 274877906943, 549755813887, 1099511627775, 2199023255551, 4398046511103, 8796093022207] [[5], [47], [5], [49], [5], [51], [48, 50, 52], [5], [54], [5], [56], [5], [58], [55, 57, 59], [53, 60], [61], [7], [9], [63, 64], [62, 65], [66], [8], [10], [68, 69], [67, 70], [71], [11], [14], [73, 74], [72, 75], [76], [12], [15], [78, 79], [77, 80], [81], [13], [16], [83, 84], [82, 85], [86], [], [87, 88], [89]] [⟨some 47, none, .idxA 3 1 (.t 5) (.k (.int .i64 0))⟩,
               ⟨some 48, none, .load false 1 (.t 47)⟩,
               ⟨some 49, none, .idxA 3 1 (.t 5) (.k (.int .i64 1))⟩,
               ⟨some 50, none, .load false 1 (.t 49)⟩,
               ⟨some 51, none, .idxA 3 1 (.t 5) (.k (.int .i64 2))⟩,
               ⟨some 52, none, .load false 1 (.t 51)⟩,
               ⟨some 53, none, .call 109 [.t 48, .t 50, .t 52]⟩,
               ⟨some 54, none, .idxA 3 1 (.t 5) (.k (.int .i64 0))⟩,
               ⟨some 55, none, .load false 1 (.t 54)⟩,
               ⟨some 56, none, .idxA 3 1 (.t 5) (.k (.int .i64 1))⟩,
               ⟨some 57, none, .load false 1 (.t 56)⟩,
               ⟨some 58, none, .idxA 3 1 (.t 5) (.k (.int .i64 2))⟩,
               ⟨some 59, none, .load false 1 (.t 58)⟩,
               ⟨some 60, none, .call 125 [.t 55, .t 57, .t 59]⟩,
               ⟨some 61, none, .bin .eql (.t 53) (.t 60)⟩,
               ⟨some 62, none, .mv (.t 61)⟩,
               ⟨some 63, some (62, true), .load true 8 (.t 7)⟩,
               ⟨some 64, some (62, true), .load true 8 (.t 9)⟩,
               ⟨some 65, some (62, true), .call 117 [.t 63, .t 64]⟩,
               ⟨some 66, none, .pick (.t 62) (.t 65) (.k (.bool false))⟩,
               ⟨some 67, none, .mv (.t 66)⟩,
               ⟨some 68, some (67, true), .mv (.t 8)⟩,
               ⟨some 69, some (67, true), .mv (.t 10)⟩,
               ⟨some 70, some (67, true), .bin .eql (.t 68) (.t 69)⟩,
               ⟨some 71, none, .pick (.t 67) (.t 70) (.k (.bool false))⟩,
               ⟨some 72, none, .mv (.t 71)⟩,
               ⟨some 73, some (72, true), .mv (.t 11)⟩,
               ⟨some 74, some (72, true), .mv (.t 14)⟩,
               ⟨some 75, some (72, true), .bin .eql (.t 73) (.t 74)⟩,
               ⟨some 76, none, .pick (.t 72) (.t 75) (.k (.bool false))⟩,
               ⟨some 77, none, .mv (.t 76)⟩,
               ⟨some 78, some (77, true), .mv (.t 12)⟩,
               ⟨some 79, some (77, true), .mv (.t 15)⟩,
               ⟨some 80, some (77, true), .bin .eql (.t 78) (.t 79)⟩,
               ⟨some 81, none, .pick (.t 77) (.t 80) (.k (.bool false))⟩,
               ⟨some 82, none, .mv (.t 81)⟩,
               ⟨some 83, some (82, true), .mv (.t 13)⟩,
               ⟨some 84, some (82, true), .mv (.t 16)⟩,
               ⟨some 85, some (82, true), .bin .eql (.t 83) (.t 84)⟩,
               ⟨some 86, none, .pick (.t 82) (.t 85) (.k (.bool false))⟩,
               ⟨some 87, none, .mv (.t 86)⟩,
               ⟨some 88, some (87, true), .call 110 []⟩,
               ⟨some 89, none, .pick (.t 87) (.t 88) (.k (.bool false))⟩,
               ⟨some 6, none, .mv (.t 89)⟩])
             (.keep [6]
              .ret))))))))))))) }
structure N121 (R : Env) : Prop where
  o121 : R.Fn 121 c121
  n109 : N109 R
  n110 : N110 R
  n112 : N112 R
  n117 : N117 R
  n119 : N119 R
  n122 : N122 R
  n123 : N123 R
  n124 : N124 R
  n125 : N125 R
/-- umbra.umbralaw38.OverStacks -/
def c126 : IFn := { np := 2, rs := [.t 4], body :=
 (.seq
  (.ops [⟨some 3, none, .box 18 (.t 1)⟩,
    ⟨some 4, none, .mv (.k (.bool false))⟩])
  (.seq
   (.ops [⟨some 5, none, .mv (.k (.nils))⟩])
   (.seq
    (.seq
     (.ops [⟨some 6, none, .mv (.k (.int .i64 0))⟩])
     (.keep [0, 3, 5, 6]
      (.block 0
       (.loop
        (.seq
         (.seq
          (.ops [⟨some 15, none, .mv (.t 6)⟩,
            ⟨some 16, none, .mv (.t 0)⟩,
            ⟨some 17, none, .lenS (.t 16)⟩,
            ⟨some 18, none, .bin .lss (.t 15) (.t 17)⟩,
            ⟨some 19, none, .mv (.t 18)⟩,
            ⟨some 20, some (19, true), .mv (.t 6)⟩,
            ⟨some 21, some (19, true), .bin .lss (.t 20) (.k (.int .i64 5))⟩,
            ⟨some 22, none, .pick (.t 19) (.t 21) (.k (.bool false))⟩])
          (.keep [0, 3, 5, 6, 22]
           (.cond (.t 22)
            .skip
            (.exit 0))))
         (.keep [0, 3, 5, 6]
          (.seq
           (.block 1
            (.ops [⟨some 25, none, .mv (.t 5)⟩,
              ⟨some 26, none, .mv (.t 0)⟩,
              ⟨some 27, none, .mv (.t 6)⟩,
              ⟨some 28, none, .idxS 8 (.t 26) (.t 27)⟩,
              ⟨some 29, none, .load true 8 (.t 28)⟩,
              ⟨some 30, none, .call 112 [.t 29]⟩,
              ⟨some 31, none, .bslice 16 8 1 [.int .i64 0, .int .i64 0, .nils, .nils, .nils, .nils, .nils, .nils] [(0, .t 30)]⟩,
              ⟨some 32, none, .app 16 8 (.t 25) (.t 31)⟩,
              ⟨some 5, none, .mv (.t 32)⟩]))
           (.keep [0, 3, 5, 6]
            (.ops [⟨some 23, none, .mv (.t 6)⟩,
              ⟨some 24, none, .bin .add (.t 23) (.k (.int .i64 1))⟩,
              ⟨some 6, none, .mv (.t 24)⟩])))))))))
    (.keep [3, 5]
     (.seq
      (.ops [⟨some 34, none, .mv (.t 5)⟩,
        ⟨some 35, none, .call 127 [.t 34]⟩,
        ⟨some 33, none, .mv (.t 35)⟩,
        ⟨some 36, none, .ext (.t 33) 0⟩,
        ⟨some 37, none, .ext (.t 33) 1⟩,
        ⟨some 7, none, .alloc 16 [.int .i64 0, .int .i64 0, .nils, .nils, .nils, .nils, .nils, .nils]⟩,
        ⟨none, none, .store 8 (.t 7) (.t 36)⟩,
        ⟨some 8, none, .mv (.t 37)⟩])
      (.keep [3, 5, 7, 8]
       (.seq
        (.ops [⟨some 39, none, .mv (.t 5)⟩,
          ⟨some 40, none, .call 128 [.t 39]⟩,
          ⟨some 38, none, .mv (.t 40)⟩,
          ⟨some 41, none, .ext (.t 38) 0⟩,
          ⟨some 42, none, .ext (.t 38) 1⟩,
          ⟨some 9, none, .alloc 16 [.int .i64 0, .int .i64 0, .nils, .nils, .nils, .nils, .nils, .nils]⟩,
          ⟨none, none, .store 8 (.t 9) (.t 41)⟩,
          ⟨some 10, none, .mv (.t 42)⟩])
        (.keep [3, 7, 8, 9, 10]
         (.seq
          (.ops [⟨some 44, none, .idxA 2 1 (.t 3) (.k (.int .i64 0))⟩,
            ⟨some 45, none, .load false 1 (.t 44)⟩,
            ⟨some 46, none, .idxA 2 1 (.t 3) (.k (.int .i64 1))⟩,
            ⟨some 47, none, .load false 1 (.t 46)⟩,
            ⟨some 48, none, .call 129 [.t 45, .t 47]⟩,
            ⟨some 43, none, .mv (.t 48)⟩,
            ⟨some 49, none, .ext (.t 43) 0⟩,
            ⟨some 50, none, .ext (.t 43) 1⟩,
            ⟨some 11, none, .alloc 16 [.int .i64 0, .int .i64 0, .nils, .nils, .nils, .nils, .nils, .nils]⟩,
            ⟨none, none, .store 8 (.t 11) (.t 49)⟩,
            ⟨some 12, none, .mv (.t 50)⟩])
          (.keep [3, 7, 8, 9, 10, 11, 12]
           (.seq
            (.ops [⟨some 52, none, .idxA 2 1 (.t 3) (.k (.int .i64 0))⟩,
              ⟨some 53, none, .load false 1 (.t 52)⟩,
              ⟨some 54, none, .idxA 2 1 (.t 3) (.k (.int .i64 1))⟩,
              ⟨some 55, none, .load false 1 (.t 54)⟩,
              ⟨some 56, none, .call 130 [.t 53, .t 55]⟩,
              ⟨some 51, none, .mv (.t 56)⟩,
              ⟨some 57, none, .ext (.t 51) 0⟩,
              ⟨some 58, none, .ext (.t 51) 1⟩,
              ⟨some 13, none, .alloc 16 [.int .i64 0, .int .i64 0, .nils, .nils, .nils, .nils, .nils, .nils]⟩,
              ⟨none, none, .store 8 (.t 13) (.t 57)⟩,
              ⟨some 14, none, .mv (.t 58)⟩])
            (.keep [7, 8, 9, 10, 11, 12, 13, 14]
             (.seq
              (.ops [⟨some 59, none, .load true 8 (.t 7)⟩,
                ⟨some 60, none, .load true 8 (.t 9)⟩,
                ⟨some 61, none, .call 117 [.t 59, .t 60]⟩,
                ⟨some 62, none, .mv (.t 61)⟩,
                ⟨some 63, some (62, true), .mv (.t 8)⟩,
                ⟨some 64, some (62, true), .mv (.t 10)⟩,
                ⟨some 65, some (62, true), .bin .eql (.t 63) (.t 64)⟩,
                ⟨some 66, none, .pick (.t 62) (.t 65) (.k (.bool false))⟩,
                ⟨some 67, none, .mv (.t 66)⟩,
                ⟨some 68, some (67, true), .load true 8 (.t 11)⟩,
                ⟨some 69, some (67, true), .load true 8 (.t 13)⟩,
                ⟨some 70, some (67, true), .call 117 [.t 68, .t 69]⟩,
                ⟨some 71, none, .pick (.t 67) (.t 70) (.k (.bool false))⟩,
                ⟨some 72, none, .mv (.t 71)⟩,
                ⟨some 73, some (72, true), .mv (.t 12)⟩,
                ⟨some 74, some (72, true), .mv (.t 14)⟩,
                ⟨some 75, some (72, true), .bin .eql (.t 73) (.t 74)⟩,
                ⟨some 76, none, .pick (.t 72) (.t 75) (.k (.bool false))⟩,
                ⟨some 77, none, .mv (.t 76)⟩,
                ⟨some 78, some (77, true), .call 110 []⟩,
                ⟨some 79, none, .pick (.t 77) (.t 78) (.k (.bool false))⟩,
                ⟨some 4, none, .mv (.t 79)⟩])
              (.keep [4]
               .ret)))))))))))))) }
structure N126 (R : Env) : Prop where
  o126 : R.Fn 126 c126
  n110 : N110 R
  n112 : N112 R
  n117 : N117 R
  n127 : N127 R
  n128 : N128 R
  n129 : N129 R
  n130 : N130 R
/-- umbra.umbralaw38.OverClear -/
def c131 : IFn := { np := 1, rs := [.t 2], body :=
 (.seq
  (.ops [⟨some 1, none, .box 16 (.t 0)⟩,
    ⟨some 2, none, .mv (.k (.bool false))⟩])
  (.seq
   (.ops [⟨some 16, none, .load true 8 (.t 1)⟩,
     ⟨some 17, none, .call 112 [.t 16]⟩,
     ⟨none, none, .store 8 (.t 1) (.t 17)⟩])
   (.seq
    (.ops [⟨some 19, none, .fldA 0 (.t 1)⟩,
      ⟨some 20, none, .load false 1 (.t 19)⟩,
      ⟨some 21, none, .fldA 1 (.t 1)⟩,
      ⟨some 22, none, .load false 1 (.t 21)⟩,
      ⟨some 23, none, .call 129 [.t 20, .t 22]⟩,
      ⟨some 18, none, .mv (.t 23)⟩,
      ⟨some 24, none, .ext (.t 18) 0⟩,
      ⟨some 25, none, .ext (.t 18) 1⟩,
      ⟨some 3, none, .alloc 16 [.int .i64 0, .int .i64 0, .nils, .nils, .nils, .nils, .nils, .nils]⟩,
      ⟨none, none, .store 8 (.t 3) (.t 24)⟩,
      ⟨some 4, none, .mv (.t 25)⟩])
    (.keep [1, 3, 4]
     (.seq
      (.ops [⟨some 27, none, .load true 8 (.t 3)⟩,
        ⟨some 28, none, .load true 8 (.t 1)⟩,
        ⟨some 29, none, .call 119 [.t 27, .t 28]⟩,
        ⟨some 26, none, .mv (.t 29)⟩,
        ⟨some 30, none, .ext (.t 26) 0⟩,
        ⟨some 31, none, .ext (.t 26) 1⟩,
        ⟨some 5, none, .alloc 16 [.int .i64 0, .int .i64 0, .nils, .nils, .nils, .nils, .nils, .nils]⟩,
        ⟨none, none, .store 8 (.t 5) (.t 30)⟩,
        ⟨some 6, none, .mv (.t 31)⟩])
      (.keep [1, 3, 4, 5, 6]
       (.seq
        (.seq
         (.ops [⟨some 33, none, .load true 8 (.t 1)⟩,
           ⟨some 34, none, .call 132 [.t 33]⟩,
           ⟨some 32, none, .mv (.t 34)⟩,
           ⟨some 35, none, .ext (.t 32) 0⟩,
           ⟨some 36, none, .ext (.t 32) 1⟩,
           ⟨some 7, none, .mv (.t 35)⟩,
           ⟨some 8, none, .mv (.t 36)⟩])
         (.keep [1, 3, 4, 5, 6, 8]
          (.seq
           (.ops [⟨some 37, none, .mv (.t 8)⟩,
             ⟨some 38, none, .bin .neq (.t 37) (.k (.int .i64 0))⟩])
           (.cond (.t 38)
            (.seq
             (.ops [⟨some 39, none, .mv (.t 6)⟩,
               ⟨some 40, none, .bin .neq (.t 39) (.k (.int .i64 0))⟩,
               ⟨some 41, none, .mv (.t 40)⟩,
               ⟨some 42, some (41, true), .load true 8 (.t 5)⟩,
               ⟨some 43, some (41, true), .build [.int .i64 0, .int .i64 0, .nils, .nils, .nils, .nils, .nils, .nils] []⟩,
               ⟨some 44, some (41, true), .call 120 [.t 42, .t 43]⟩,
               ⟨some 45, none, .pick (.t 41) (.t 44) (.k (.bool false))⟩,
               ⟨some 46, none, .mv (.t 45)⟩,
               ⟨some 47, some (46, true), .call 110 []⟩,
               ⟨some 48, none, .pick (.t 46) (.t 47) (.k (.bool false))⟩,
               ⟨some 2, none, .mv (.t 48)⟩])
             (.keep [2]
              .ret))
            .skip))))
        (.keep [1, 3, 4, 5, 6]
         (.seq
          (.seq
           (.ops [⟨some 49, none, .mv (.t 4)⟩,
             ⟨some 50, none, .bin .neq (.t 49) (.k (.int .i64 0))⟩,
             ⟨some 51, none, .mv (.t 50)⟩,
             ⟨some 52, some (51, false), .mv (.t 6)⟩,
             ⟨some 53, some (51, false), .bin .neq (.t 52) (.k (.int .i64 0))⟩,
             ⟨some 54, none, .pick (.t 51) (.k (.bool true)) (.t 53)⟩,
             ⟨some 55, none, .mv (.t 54)⟩,
             ⟨some 56, some (55, false), .load true 8 (.t 5)⟩,
             ⟨some 57, some (55, false), .load true 8 (.t 1)⟩,
             ⟨some 58, some (55, false), .call 120 [.t 56, .t 57]⟩,
             ⟨some 59, some (55, false), .un .not (.t 58)⟩,
             ⟨some 60, none, .pick (.t 55) (.k (.bool true)) (.t 59)⟩,
             ⟨some 61, none, .mv (.t 60)⟩,
             ⟨some 62, some (61, false), .fldA 2 (.t 1)⟩,
             ⟨some 63, some (61, false), .load false 1 (.t 62)⟩,
             ⟨some 64, some (61, false), .lenS (.t 63)⟩,
             ⟨some 65, some (61, false), .fldA 3 (.t 1)⟩,
             ⟨some 66, some (61, false), .load false 1 (.t 65)⟩,
             ⟨some 67, some (61, false), .lenS (.t 66)⟩,
             ⟨some 68, some (61, false), .bin .neq (.t 64) (.t 67)⟩,
             ⟨some 69, none, .pick (.t 61) (.k (.bool true)) (.t 68)⟩])
           (.keep [1, 3, 69]
            (.cond (.t 69)
             (.seq
              (.ops [⟨some 2, none, .mv (.k (.bool false))⟩])
              .ret)
             .skip)))
          (.keep [1, 3]
           (.seq
            (.ops [⟨some 71, none, .load true 8 (.t 1)⟩,
              ⟨some 72, none, .load true 8 (.t 3)⟩,
              ⟨some 73, none, .call 119 [.t 71, .t 72]⟩,
              ⟨some 70, none, .mv (.t 73)⟩,
              ⟨some 74, none, .ext (.t 70) 0⟩,
              ⟨some 75, none, .ext (.t 70) 1⟩,
              ⟨some 9, none, .alloc 16 [.int .i64 0, .int .i64 0, .nils, .nils, .nils, .nils, .nils, .nils]⟩,
              ⟨none, none, .store 8 (.t 9) (.t 74)⟩,
              ⟨some 10, none, .mv (.t 75)⟩])
            (.keep [1, 9, 10]
             (.seq
              (.seq
               (.ops [⟨some 76, none, .mv (.t 10)⟩,
                 ⟨some 77, none, .bin .neq (.t 76) (.k (.int .i64 0))⟩,
                 ⟨some 78, none, .mv (.t 77)⟩,
                 ⟨some 79, some (78, false), .fldA 3 (.t 9)⟩,
                 ⟨some 80, some (78, false), .load false 1 (.t 79)⟩,
                 ⟨some 81, some (78, false), .lenS (.t 80)⟩,
                 ⟨some 82, some (78, false), .fldA 3 (.t 1)⟩,
                 ⟨some 83, some (78, false), .load false 1 (.t 82)⟩,
                 ⟨some 84, some (78, false), .lenS (.t 83)⟩,
                 ⟨some 85, some (78, false), .bin .neq (.t 81) (.t 84)⟩,
                 ⟨some 86, none, .pick (.t 78) (.k (.bool true)) (.t 85)⟩,
                 ⟨some 87, none, .mv (.t 86)⟩,
                 ⟨some 88, some (87, false), .fldA 2 (.t 9)⟩,
                 ⟨some 89, some (87, false), .load false 1 (.t 88)⟩,
                 ⟨some 90, some (87, false), .lenS (.t 89)⟩,
                 ⟨some 91, some (87, false), .fldA 2 (.t 1)⟩,
                 ⟨some 92, some (87, false), .load false 1 (.t 91)⟩,
                 ⟨some 93, some (87, false), .lenS (.t 92)⟩,
                 ⟨some 94, some (87, false), .bin .neq (.t 90) (.t 93)⟩,
                 ⟨some 95, none, .pick (.t 87) (.k (.bool true)) (.t 94)⟩])
               (.keep [1, 9, 95]
                (.cond (.t 95)
                 (.seq
                  (.ops [⟨some 2, none, .mv (.k (.bool false))⟩])
                  .ret)
                 .skip)))
              (.keep [1, 9]
               (.seq
                (.seq
                 (.ops [⟨some 96, none, .fldA 3 (.t 1)⟩,
                   ⟨some 97, none, .load false 1 (.t 96)⟩,
                   ⟨some 98, none, .lenS (.t 97)⟩,
                   ⟨some 99, none, .mv (.k (.int .i64 0))⟩])
                 (.keep [1, 9, 97, 98, 99]
                  (.block 0
                   (.loop
                    (.seq
                     (.ops [⟨some 100, none, .bin .lss (.t 99) (.t 98)⟩])
                     (.seq
                      (.cond (.t 100)
                       .skip
                       (.exit 0))
                      (.keep [1, 9, 97, 98, 99]
                       (.seq
                        (.block 1
                         (.seq
                          (.ops [⟨some 101, none, .mv (.t 99)⟩,
                            ⟨some 102, none, .idxS 1 (.t 97) (.t 99)⟩,
                            ⟨some 103, none, .load false 1 (.t 102)⟩,
                            ⟨some 11, none, .mv (.t 101)⟩,
                            ⟨some 12, none, .mv (.t 103)⟩])
                          (.keep [1, 9, 11, 12, 97, 98, 99]
                           (.seq
                            (.draw [0, 1, 0, 7, 15, 0, 63, 127, 255, 511, 255, 2047, 4095, 255, 8447, 255, 57599, 123135, 262143, 524287] [[9], [104], [11], [105, 106], [107], [12], [108, 109], [110], [9], [112], [11], [113, 114], [115], [1], [117], [11], [118, 119], [120], [116, 121], [111, 122]] [⟨some 104, none, .fldA 3 (.t 9)⟩,
                              ⟨some 105, none, .load false 1 (.t 104)⟩,
                              ⟨some 106, none, .mv (.t 11)⟩,
                              ⟨some 107, none, .idxS 1 (.t 105) (.t 106)⟩,
                              ⟨some 108, none, .load false 1 (.t 107)⟩,
                              ⟨some 109, none, .mv (.t 12)⟩,
                              ⟨some 110, none, .bin .neq (.t 108) (.t 109)⟩,
                              ⟨some 111, none, .mv (.t 110)⟩,
                              ⟨some 112, some (111, false), .fldA 2 (.t 9)⟩,
                              ⟨some 113, some (111, false), .load false 1 (.t 112)⟩,
                              ⟨some 114, some (111, false), .mv (.t 11)⟩,
                              ⟨some 115, some (111, false), .idxS 3 (.t 113) (.t 114)⟩,
                              ⟨some 116, some (111, false), .load true 3 (.t 115)⟩,
                              ⟨some 117, some (111, false), .fldA 2 (.t 1)⟩,
                              ⟨some 118, some (111, false), .load false 1 (.t 117)⟩,
                              ⟨some 119, some (111, false), .mv (.t 11)⟩,
                              ⟨some 120, some (111, false), .idxS 3 (.t 118) (.t 119)⟩,
                              ⟨some 121, some (111, false), .load true 3 (.t 120)⟩,
                              ⟨some 122, some (111, false), .eqa true [.i, .i, .i] (.t 116) (.t 121)⟩,
                              ⟨some 123, none, .pick (.t 111) (.k (.bool true)) (.t 122)⟩])
                            (.keep [1, 9, 97, 98, 99, 123]
                             (.cond (.t 123)
                              (.seq
                               (.ops [⟨some 2, none, .mv (.k (.bool false))⟩])
                               .ret)
                              .skip))))))
                        (.keep [1, 9, 97, 98, 99]
                         (.ops [⟨some 124, none, .bin .add (.t 99) (.k (.int .i64 1))⟩,
                           ⟨some 99, none, .mv (.t 124)⟩]))))))))))
                (.keep [1]
                 (.seq
                  (.ops [⟨some 126, none, .load true 8 (.t 1)⟩,
                    ⟨some 127, none, .load true 8 (.t 1)⟩,
                    ⟨some 128, none, .call 123 [.t 126, .t 127]⟩,
                    ⟨some 125, none, .mv (.t 128)⟩,
                    ⟨some 129, none, .ext (.t 125) 0⟩,
                    ⟨some 130, none, .ext (.t 125) 1⟩,
                    ⟨some 131, none, .ext (.t 125) 2⟩,
                    ⟨some 13, none, .mv (.t 129)⟩,
                    ⟨some 14, none, .mv (.t 130)⟩,
                    ⟨some 15, none, .mv (.t 131)⟩])
                  (.keep [13, 14, 15]
                   (.seq
                    (.ops [⟨some 132, none, .mv (.t 13)⟩,
                      ⟨some 133, none, .bin .eql (.t 132) (.k (.int .i64 0))⟩,
                      ⟨some 134, none, .mv (.t 133)⟩,
                      ⟨some 135, some (134, true), .mv (.t 14)⟩,
                      ⟨some 136, some (134, true), .bin .eql (.t 135) (.k (.int .i64 0))⟩,
                      ⟨some 137, none, .pick (.t 134) (.t 136) (.k (.bool false))⟩,
                      ⟨some 138, none, .mv (.t 137)⟩,
                      ⟨some 139, some (138, true), .mv (.t 15)⟩,
                      ⟨some 140, some (138, true), .bin .eql (.t 139) (.k (.int .i64 0))⟩,
                      ⟨some 141, none, .pick (.t 138) (.t 140) (.k (.bool false))⟩,
                      ⟨some 142, none, .mv (.t 141)⟩,
                      ⟨some 143, some (142, true), .call 110 []⟩,
                      ⟨some 144, none, .pick (.t 142) (.t 143) (.k (.bool false))⟩,
                      ⟨some 2, none, .mv (.t 144)⟩])
                    (.keep [2]
                     .ret)))))))))))))))))))) }
structure N131 (R : Env) : Prop where
  o131 : R.Fn 131 c131
  n110 : N110 R
  n112 : N112 R
  n119 : N119 R
  n120 : N120 R
  n123 : N123 R
  n129 : N129 R
  n132 : N132 R
/-- umbra.umbralaw38.OverBack -/
def c133 : IFn := { np := 3, rs := [.t 6], body :=
 (.seq
  (.ops [⟨some 3, none, .box 16 (.t 0)⟩,
    ⟨some 4, none, .box 16 (.t 1)⟩,
    ⟨some 5, none, .box 18 (.t 2)⟩,
    ⟨some 6, none, .mv (.k (.bool false))⟩])
  (.seq
   (.draw [0, 1, 0, 7, 15, 31] [[3], [18], [4], [20], [3, 19], [4, 21]] [⟨some 18, none, .load true 8 (.t 3)⟩,
     ⟨some 19, none, .call 112 [.t 18]⟩,
     ⟨some 20, none, .load true 8 (.t 4)⟩,
     ⟨some 21, none, .call 112 [.t 20]⟩,
     ⟨none, none, .store 8 (.t 3) (.t 19)⟩,
     ⟨none, none, .store 8 (.t 4) (.t 21)⟩])
   (.keep [3, 4, 5]
    (.seq
     (.ops [⟨some 23, none, .load true 8 (.t 3)⟩,
       ⟨some 24, none, .load true 8 (.t 4)⟩,
       ⟨some 25, none, .idxA 2 1 (.t 5) (.k (.int .i64 0))⟩,
       ⟨some 26, none, .load false 1 (.t 25)⟩,
       ⟨some 27, none, .idxA 2 1 (.t 5) (.k (.int .i64 1))⟩,
       ⟨some 28, none, .load false 1 (.t 27)⟩,
       ⟨some 29, none, .call 115 [.t 23, .t 24, .t 26, .t 28]⟩,
       ⟨some 22, none, .mv (.t 29)⟩,
       ⟨some 30, none, .ext (.t 22) 0⟩,
       ⟨some 31, none, .ext (.t 22) 1⟩,
       ⟨some 7, none, .alloc 16 [.int .i64 0, .int .i64 0, .nils, .nils, .nils, .nils, .nils, .nils]⟩,
       ⟨none, none, .store 8 (.t 7) (.t 30)⟩,
       ⟨some 8, none, .mv (.t 31)⟩])
     (.keep [3, 4, 5, 7, 8]
      (.seq
       (.seq
        (.ops [⟨some 32, none, .mv (.t 8)⟩,
          ⟨some 33, none, .bin .neq (.t 32) (.k (.int .i64 0))⟩])
        (.cond (.t 33)
         (.seq
          (.ops [⟨some 34, none, .load true 8 (.t 7)⟩,
            ⟨some 35, none, .build [.int .i64 0, .int .i64 0, .nils, .nils, .nils, .nils, .nils, .nils] []⟩,
            ⟨some 36, none, .call 120 [.t 34, .t 35]⟩,
            ⟨some 37, none, .mv (.t 36)⟩,
            ⟨some 38, some (37, true), .call 110 []⟩,
            ⟨some 39, none, .pick (.t 37) (.t 38) (.k (.bool false))⟩,
            ⟨some 6, none, .mv (.t 39)⟩])
          (.keep [6]
           .ret))
         .skip))
       (.keep [3, 4, 5, 7]
        (.seq
         (.ops [⟨some 41, none, .load true 8 (.t 7)⟩,
           ⟨some 42, none, .idxA 2 1 (.t 5) (.k (.int .i64 0))⟩,
           ⟨some 43, none, .load false 1 (.t 42)⟩,
           ⟨some 44, none, .idxA 2 1 (.t 5) (.k (.int .i64 1))⟩,
           ⟨some 45, none, .load false 1 (.t 44)⟩,
           ⟨some 46, none, .fldA 0 (.t 4)⟩,
           ⟨some 47, none, .load false 1 (.t 46)⟩,
           ⟨some 48, none, .fldA 1 (.t 4)⟩,
           ⟨some 49, none, .load false 1 (.t 48)⟩,
           ⟨some 50, none, .call 113 [.t 41, .t 43, .t 45, .t 47, .t 49]⟩,
           ⟨some 40, none, .mv (.t 50)⟩,
           ⟨some 51, none, .ext (.t 40) 0⟩,
           ⟨some 52, none, .ext (.t 40) 1⟩,
           ⟨some 9, none, .alloc 16 [.int .i64 0, .int .i64 0, .nils, .nils, .nils, .nils, .nils, .nils]⟩,
           ⟨none, none, .store 8 (.t 9) (.t 51)⟩,
           ⟨some 10, none, .mv (.t 52)⟩])
         (.keep [3, 4, 5, 7, 9, 10]
          (.seq
           (.ops [⟨some 54, none, .load true 8 (.t 3)⟩,
             ⟨some 55, none, .idxA 2 1 (.t 5) (.k (.int .i64 0))⟩,
             ⟨some 56, none, .load false 1 (.t 55)⟩,
             ⟨some 57, none, .idxA 2 1 (.t 5) (.k (.int .i64 1))⟩,
             ⟨some 58, none, .load false 1 (.t 57)⟩,
             ⟨some 59, none, .fldA 0 (.t 4)⟩,
             ⟨some 60, none, .load false 1 (.t 59)⟩,
             ⟨some 61, none, .fldA 1 (.t 4)⟩,
             ⟨some 62, none, .load false 1 (.t 61)⟩,
             ⟨some 63, none, .call 113 [.t 54, .t 56, .t 58, .t 60, .t 62]⟩,
             ⟨some 53, none, .mv (.t 63)⟩,
             ⟨some 64, none, .ext (.t 53) 0⟩,
             ⟨some 65, none, .ext (.t 53) 1⟩,
             ⟨some 11, none, .alloc 16 [.int .i64 0, .int .i64 0, .nils, .nils, .nils, .nils, .nils, .nils]⟩,
             ⟨none, none, .store 8 (.t 11) (.t 64)⟩,
             ⟨some 12, none, .mv (.t 65)⟩])
           (.keep [3, 4, 5, 7, 9, 10, 11, 12]
            (.seq
             (.ops [⟨some 67, none, .load true 8 (.t 7)⟩,
               ⟨some 68, none, .load true 8 (.t 11)⟩,
               ⟨some 69, none, .idxA 2 1 (.t 5) (.k (.int .i64 0))⟩,
               ⟨some 70, none, .load false 1 (.t 69)⟩,
               ⟨some 71, none, .idxA 2 1 (.t 5) (.k (.int .i64 1))⟩,
               ⟨some 72, none, .load false 1 (.t 71)⟩,
               ⟨some 73, none, .call 115 [.t 67, .t 68, .t 70, .t 72]⟩,
               ⟨some 66, none, .mv (.t 73)⟩,
               ⟨some 74, none, .ext (.t 66) 0⟩,
               ⟨some 75, none, .ext (.t 66) 1⟩,
               ⟨some 13, none, .alloc 16 [.int .i64 0, .int .i64 0, .nils, .nils, .nils, .nils, .nils, .nils]⟩,
               ⟨none, none, .store 8 (.t 13) (.t 74)⟩,
               ⟨some 14, none, .mv (.t 75)⟩])
             (.keep [3, 4, 7, 9, 10, 12, 13, 14]
              (.seq
               (.ops [⟨some 77, none, .load true 8 (.t 7)⟩,
                 ⟨some 78, none, .load true 8 (.t 3)⟩,
                 ⟨some 79, none, .call 123 [.t 77, .t 78]⟩,
                 ⟨some 76, none, .mv (.t 79)⟩,
                 ⟨some 80, none, .ext (.t 76) 0⟩,
                 ⟨some 81, none, .ext (.t 76) 1⟩,
                 ⟨some 82, none, .ext (.t 76) 2⟩,
                 ⟨some 15, none, .mv (.t 80)⟩,
                 ⟨some 16, none, .mv (.t 81)⟩,
                 ⟨some 17, none, .mv (.t 82)⟩])
               (.keep [3, 4, 9, 10, 12, 13, 14, 15, 17]
                (.seq
                 (.ops [⟨some 83, none, .mv (.t 10)⟩,
                   ⟨some 84, none, .bin .eql (.t 83) (.k (.int .i64 0))⟩,
                   ⟨some 85, none, .mv (.t 84)⟩,
                   ⟨some 86, some (85, true), .load true 8 (.t 9)⟩,
                   ⟨some 87, some (85, true), .load true 8 (.t 4)⟩,
                   ⟨some 88, some (85, true), .call 120 [.t 86, .t 87]⟩,
                   ⟨some 89, none, .pick (.t 85) (.t 88) (.k (.bool false))⟩,
                   ⟨some 90, none, .mv (.t 89)⟩,
                   ⟨some 91, some (90, true), .mv (.t 12)⟩,
                   ⟨some 92, some (90, true), .bin .eql (.t 91) (.k (.int .i64 0))⟩,
                   ⟨some 93, none, .pick (.t 90) (.t 92) (.k (.bool false))⟩,
                   ⟨some 94, none, .mv (.t 93)⟩,
                   ⟨some 95, some (94, true), .mv (.t 14)⟩,
                   ⟨some 96, some (94, true), .bin .eql (.t 95) (.k (.int .i64 0))⟩,
                   ⟨some 97, none, .pick (.t 94) (.t 96) (.k (.bool false))⟩,
                   ⟨some 98, none, .mv (.t 97)⟩,
                   ⟨some 99, some (98, true), .load true 8 (.t 13)⟩,
                   ⟨some 100, some (98, true), .load true 8 (.t 3)⟩,
                   ⟨some 101, some (98, true), .call 120 [.t 99, .t 100]⟩,
                   ⟨some 102, none, .pick (.t 98) (.t 101) (.k (.bool false))⟩,
                   ⟨some 103, none, .mv (.t 102)⟩,
                   ⟨some 104, some (103, true), .mv (.t 17)⟩,
                   ⟨some 105, some (103, true), .bin .eql (.t 104) (.k (.int .i64 0))⟩,
                   ⟨some 106, none, .pick (.t 103) (.t 105) (.k (.bool false))⟩,
                   ⟨some 107, none, .mv (.t 106)⟩,
                   ⟨some 108, some (107, true), .mv (.t 15)⟩,
                   ⟨some 109, some (107, true), .fldA 0 (.t 4)⟩,
                   ⟨some 110, some (107, true), .load false 1 (.t 109)⟩,
                   ⟨some 111, some (107, true), .fldA 1 (.t 4)⟩,
                   ⟨some 112, some (107, true), .load false 1 (.t 111)⟩,
                   ⟨some 113, some (107, true), .bin .mul (.t 110) (.t 112)⟩,
                   ⟨some 114, some (107, true), .bin .leq (.t 108) (.t 113)⟩,
                   ⟨some 115, none, .pick (.t 107) (.t 114) (.k (.bool false))⟩,
                   ⟨some 116, none, .mv (.t 115)⟩,
                   ⟨some 117, some (116, true), .call 110 []⟩,
                   ⟨some 118, none, .pick (.t 116) (.t 117) (.k (.bool false))⟩,
                   ⟨some 6, none, .mv (.t 118)⟩])
                 (.keep [6]
                  .ret))))))))))))))))) }
structure N133 (R : Env) : Prop where
  o133 : R.Fn 133 c133
  n110 : N110 R
  n112 : N112 R
  n113 : N113 R
  n115 : N115 R
  n120 : N120 R
  n123 : N123 R
end Go.UM

/- What the program's own structs are, as rows of cells. -/

namespace Go.UM
open Go.AM

/-- A manifest. -/
structure Mf where
  (id kind label m0 m1 m2 m3 m4 m5 m6 m7 first last size chunks : Int)

def Mf.row (m : Mf) : List AV := [.int .u64 m.id, .int .i64 m.kind, .int .u32 m.label, .int .u8 m.m0, .int .u8 m.m1, .int .u8 m.m2, .int .u8 m.m3, .int .u8 m.m4, .int .u8 m.m5, .int .u8 m.m6, .int .u8 m.m7,
  .int .u32 m.first, .int .u32 m.last, .int .i64 m.size, .int .i64 m.chunks]


def Mf.mask (m : Mf) : Nat → Int
  | 0 => m.m0 | 1 => m.m1 | 2 => m.m2 | 3 => m.m3 | 4 => m.m4 | 5 => m.m5 | 6 => m.m6 | 7 => m.m7 | _ => 0

theorem vix_masks {m : Mf} {i : Nat} {K : AV → Prop} (hi : i < 8) (k : K (.int .u8 (m.mask i))) : VIx false 8 1 [.int .u8 m.m0, .int .u8 m.m1, .int .u8 m.m2, .int .u8 m.m3, .int .u8 m.m4, .int .u8 m.m5, .int .u8 m.m6, .int .u8 m.m7] (i : Int) K := by
  refine ⟨⟨by omega, by omega⟩, ?_⟩
  obtain h | h | h | h | h | h | h | h : i = 0 ∨ i = 1 ∨ i = 2 ∨ i = 3 ∨ i = 4 ∨ i = 5 ∨ i = 6 ∨ i = 7 := by omega
  all_goals subst h; exact k

/-- All numbers are of their kinds. -/
structure Mf.Ok (m : Mf) : Prop where
  id : inI .u64 m.id
  kind : inI .i64 m.kind
  label : inI .u32 m.label
  mask : ∀ i, 0 ≤ m.mask i ∧ m.mask i ≤ 255
  first : inI .u32 m.first
  last : inI .u32 m.last
  size : inI .i64 m.size
  chunks : inI .i64 m.chunks
end Go.UM

/- Bytes and rows of numbers. -/

namespace Go.UM
open Go.AM

/-- The byte of a number. -/
def u8 (n : Int) : UInt8 := UInt8.ofNat (n % 256).toNat
theorem wr_u8 (n : Int) : wr .u8 n = ((u8 n).toNat : Int) := by
  have h1 : 0 ≤ n % 256 := Int.emod_nonneg _ (by decide)
  have h2 : n % 256 < 256 := Int.emod_lt_of_pos _ (by decide)
  simp only [wr, IntKind.wrap, IntKind.bits, IntKind.signed, u8]
  simp
  omega
theorem u8_mod (n : Int) : u8 (n % 256) = u8 n := by unfold u8; rw [Int.emod_emod_of_dvd n (Int.dvd_refl 256)]
theorem u8_tmod {n : Int} (h : 0 ≤ n) : u8 (n.tmod 256) = u8 n := by rw [Int.tmod_eq_emod_of_nonneg h, u8_mod]
theorem u8_toNat (c : UInt8) : u8 (c.toNat : Int) = c := by
  have := c.toNat_lt
  unfold u8
  rw [show ((c.toNat : Int) % 256).toNat = c.toNat by omega]
  simp

theorem u8_in {n : Int} (h : 0 ≤ n ∧ n ≤ 255) : ((u8 n).toNat : Int) = n := by rw [← wr_u8, wr_in (k := .u8) h]

/-- Bytes, and numbers, as the elements of a slice. -/
def slc8 (l : List UInt8) : List (List AV) := l.map fun c => [.int .u8 c.toNat]
def slcK (k : IntKind) (l : List Int) : List (List AV) := l.map fun x => [.int k x]
@[simp] theorem slc8_nil : slc8 [] = [] := rfl
@[simp] theorem slc8_length (l : List UInt8) : (slc8 l).length = l.length := by simp [slc8]
@[simp] theorem slc8_append (a b : List UInt8) : slc8 (a ++ b) = slc8 a ++ slc8 b := by simp [slc8]
@[simp] theorem slc8_one (n : Int) : [[AV.int .u8 (wr .u8 n)]] = slc8 [u8 n] := by simp [slc8, wr_u8]
@[simp] theorem slcK_nil (k : IntKind) : slcK k [] = [] := rfl
@[simp] theorem slcK_length (k : IntKind) (l : List Int) : (slcK k l).length = l.length := by simp [slcK]
@[simp] theorem slcK_append (k : IntKind) (a b : List Int) : slcK k (a ++ b) = slcK k a ++ slcK k b := by simp [slcK]
theorem slcK_one (k : IntKind) (n : Int) : [[AV.int k n]] = slcK k [n] := rfl
@[simp] theorem slc8_NmL (l : List UInt8) : NmL (slc8 l) := by simp [slc8]
@[simp] theorem slcK_NmL (k : IntKind) (l : List Int) : NmL (slcK k l) := by simp [slcK]
@[simp] theorem slc8_FlL (l : List UInt8) : FlL (slc8 l) := by simp [slc8]
@[simp] theorem slcK_FlL (k : IntKind) (l : List Int) : FlL (slcK k l) := by simp [slcK]
instance {l : List UInt8} : LenOf (slc8 l) l.length := ⟨slc8_length l⟩
instance {k : IntKind} {l : List Int} : LenOf (slcK k l) l.length := ⟨slcK_length k l⟩
@[simp] theorem mem_slc8 {e : List AV} {l : List UInt8} : e ∈ slc8 l ↔ ∃ c, c ∈ l ∧ [AV.int .u8 c.toNat] = e := by simp [slc8]
@[simp] theorem mem_slcK {k : IntKind} {e : List AV} {l : List Int} : e ∈ slcK k l ↔ ∃ c, c ∈ l ∧ [AV.int k c] = e := by simp [slcK]
theorem slc8_take (l : List UInt8) (k : Nat) : (slc8 l).take k = slc8 (l.take k) := by simp [slc8, List.map_take]
theorem slc8_drop (l : List UInt8) (k : Nat) : (slc8 l).drop k = slc8 (l.drop k) := by simp [slc8, List.map_drop]
theorem slcK_take (k' : IntKind) (l : List Int) (k : Nat) : (slcK k' l).take k = slcK k' (l.take k) := by simp [slcK, List.map_take]
theorem slcK_drop (k' : IntKind) (l : List Int) (k : Nat) : (slcK k' l).drop k = slcK k' (l.drop k) := by simp [slcK, List.map_drop]
theorem slc8_inj {a b : List UInt8} (h : slc8 a = slc8 b) : a = b := by
  have := congrArg (List.map fun e : List AV => match e with | [.int _ n] => u8 n | _ => 0) h
  simpa [slc8, List.map_map, Function.comp_def, u8_toNat] using this
theorem get8 {l : List UInt8} {i : Nat} {x : UInt8} (h : l[i]? = some x) {K : List AV → Prop} (k : K [.int .u8 x.toNat]) : EGet (slc8 l) i K := eget_map h k
theorem getK {kk : IntKind} {l : List Int} {i : Nat} {x : Int} (h : l[i]? = some x) {K : List AV → Prop} (k : K [.int kk x]) : EGet (slcK kk l) i K := eget_map h k

theorem take_succ_get {α : Type} {l : List α} {k : Nat} {x : α} (h : l[k]? = some x) : l.take (k + 1) = l.take k ++ [x] := by
  rw [List.take_add_one, h]; rfl

theorem shr_eq {k : IntKind} {x y : Int} (hx : 0 ≤ x) : shrI k x y = x / 2 ^ (min y.toNat k.bits) := by
  unfold shrI
  rw [Int.fdiv_eq_ediv_of_nonneg]
  exact Int.le_of_lt (Int.pow_pos (by decide))
theorem aS8 {s : List UInt8} {K : List UInt8 → Prop} (k : K s) : AStr (slc8 s) K := ⟨⟨s, rfl, k⟩⟩
theorem take_cap {α : Type} (l : List α) (m : Int) : l.take (min (l.length : Int) m).toNat = l.take m.toNat := by
  by_cases h : (l.length : Int) ≤ m
  · rw [show (min (l.length : Int) m).toNat = l.length by omega, List.take_of_length_le (Nat.le_refl _), List.take_of_length_le (by omega)]
  · rw [show (min (l.length : Int) m).toNat = m.toNat by omega]
theorem cap8 (b : List UInt8) (m : Int) : (slc8 b).take (min (b.length : Int) m).toNat = slc8 (b.take m.toNat) := by rw [slc8_take, take_cap]
theorem capK (k : IntKind) (b : List Int) (m : Int) : (slcK k b).take (min (b.length : Int) m).toNat = slcK k (b.take m.toNat) := by rw [slcK_take, take_cap]
instance {l : List UInt8} {k : Nat} : TkOf ((slc8 l).take k) (slc8 (l.take k)) := ⟨slc8_take l k⟩
instance {l : List UInt8} {k : Nat} : TkOf ((slc8 l).drop k) (slc8 (l.drop k)) := ⟨slc8_drop l k⟩
instance {l : List UInt8} {k j : Nat} : TkOf (((slc8 l).take k).drop j) (slc8 ((l.take k).drop j)) := ⟨by rw [slc8_take, slc8_drop]⟩
instance {kk : IntKind} {l : List Int} {k : Nat} : TkOf ((slcK kk l).take k) (slcK kk (l.take k)) := ⟨slcK_take kk l k⟩
instance {kk : IntKind} {l : List Int} {k : Nat} : TkOf ((slcK kk l).drop k) (slcK kk (l.drop k)) := ⟨slcK_drop kk l k⟩
instance {kk : IntKind} {l : List Int} {k j : Nat} : TkOf (((slcK kk l).take k).drop j) (slcK kk ((l.take k).drop j)) := ⟨by rw [slcK_take, slcK_drop]⟩
end Go.UM

/- Package pam, part 1: may a plane be? -/



namespace Go.UM
open Go.AM
set_option maxRecDepth 4000

/-- A plane. -/
structure Pl where
  (w h deep : Int)
  name : List UInt8
  data : List Int
def Pl.row (p : Pl) : List AV := [.int .i64 p.w, .int .i64 p.h, .int .i64 p.deep, .str p.name, .isl 1 (slcK .i64 p.data)]

theorem between_c {R : Env} (h : N157 R) (x a b : Int) : R.Pc 157 [.int .i64 x, .int .i64 a, .int .i64 b] (.bool (decide (a ≤ x) && decide (x ≤ b))) :=
  h.o157.enter 60 rfl fun X bb hfit hp => by
    refine sh ?_
    refine cS (fun h1 => ?_) (fun h1 => ?_)
    · refine sh ?_
      refine rT ?_
      all_goals repeat' (first | exact True.intro | refine And.intro ?_ ?_ | (intro _u; clear _u) | (with_reducible first | refine eM ?_ ?_ | refine eF ?_ ?_ ?_ | refine eN ?_ | refine eL ?_ ?_ ?_ | refine eA ?_ ?_ | refine IWk.mk ⟨_, hp, rfl⟩ ?_ ?_) | refine IWk.mk ⟨_, hp, rfl⟩ ?_ ?_)
      all_goals first | with_reducible rfl | omega | exact Or.inl (by decide) | (simp; done) | rfl | skip
      simp [h1]
    · refine sh ?_
      refine rT ?_
      all_goals repeat' (first | exact True.intro | refine And.intro ?_ ?_ | (intro _u; clear _u) | (with_reducible first | refine eM ?_ ?_ | refine eF ?_ ?_ ?_ | refine eN ?_ | refine eL ?_ ?_ ?_ | refine eA ?_ ?_ | refine IWk.mk ⟨_, hp, rfl⟩ ?_ ?_) | refine IWk.mk ⟨_, hp, rfl⟩ ?_ ?_)
      all_goals first | with_reducible rfl | omega | exact Or.inl (by decide) | (simp; done) | rfl | skip
      simp; omega

theorem all_bad {α : Type} {l : List α} {k : Nat} {x : α} {p : α → Bool} (h : l[k]? = some x) (hx : p x = false) : l.all p = false := by
  rw [List.all_eq_false]
  exact ⟨x, List.mem_of_getElem? h, by rw [hx]; simp⟩
theorem all_take_succ {α : Type} {l : List α} {k : Nat} {x : α} {p : α → Bool} (h : l[k]? = some x) : (l.take (k + 1)).all p = ((l.take k).all p && p x) := by
  rw [take_succ_get h, List.all_append]; simp

def upper (c : UInt8) : Bool := decide (65 ≤ c.toNat) && decide (c.toNat ≤ 90)
def named (s : List UInt8) : Bool := s.all upper && (decide (1 ≤ (s.length : Int)) && decide ((s.length : Int) ≤ 16))
theorem named_c {R : Env} (h : N158 R) (s : List UInt8) (hs : s.length ≤ 1073741824) : R.Pc 158 [.str s] (.bool (named s)) :=
  h.o158.enter 60 rfl fun X bb hfit hp => by
    refine sh ?_
    refine lPa 60 (fun k : Nat => k ≤ s.length ∧ (s.take k).all upper = true) (fun k => ⟨[(0, .str s), (6, .osl 0 s.length), (7, .int .i64 s.length), (8, .int .i64 k)], [(0, .arr (R.ty 4) 1 (slc8 s))], 1⟩) (fun k => s.length - k) (0) ?_ ?_
    · exact ⟨Nat.zero_le _, by simp⟩
    · intro k hk
      dsimp only
      refine sh ?_
      refine cS (fun h1 => ?_) (fun h1 => ?_)
      · obtain ⟨x, hx⟩ : ∃ u_, s[k]? = some u_ := ⟨_, List.getElem?_eq_getElem (by first | omega | (simp <;> omega))⟩
        refine sh ?_
        refine aelt_map (by simp) hx ?_
        have hx8 := x.toNat_lt
        refine sh ?_
        refine cS (fun h2 => ?_) (fun h2 => ?_)
        · refine sh ?_
          refine rT ?_
          all_goals repeat' (first | exact True.intro | refine And.intro ?_ ?_ | (intro _u; clear _u) | (with_reducible first | refine eM ?_ ?_ | refine eF ?_ ?_ ?_ | refine eN ?_ | refine eL ?_ ?_ ?_ | refine eA ?_ ?_ | refine IWk.mk ⟨_, hp, rfl⟩ ?_ ?_) | refine IWk.mk ⟨_, hp, rfl⟩ ?_ ?_)
          all_goals first | with_reducible rfl | omega | exact Or.inl (by decide) | (simp; done) | rfl | skip
          have hno : upper x = false := by simp [upper]; omega
          simp [named, all_bad hx hno]
        · refine sh ?_
          refine cS (fun h3 => ?_) (fun h3 => ?_)
          · refine sh ?_
            refine rT ?_
            all_goals repeat' (first | exact True.intro | refine And.intro ?_ ?_ | (intro _u; clear _u) | (with_reducible first | refine eM ?_ ?_ | refine eF ?_ ?_ ?_ | refine eN ?_ | refine eL ?_ ?_ ?_ | refine eA ?_ ?_ | refine IWk.mk ⟨_, hp, rfl⟩ ?_ ?_) | refine IWk.mk ⟨_, hp, rfl⟩ ?_ ?_)
            all_goals first | with_reducible rfl | omega | exact Or.inl (by decide) | (simp; done) | rfl | skip
            have hno : upper x = false := by simp [upper]; omega
            simp [named, all_bad hx hno]
          · refine sh ?_
            refine nXa (k + 1) ?_ ?_
            · refine ⟨by omega, ?_⟩
              have hyes : upper x = true := by simp [upper]; omega
              rw [all_take_succ hx, hk.2, hyes]; rfl
            · omega
      · have hk2 := hk.2
        rw [List.take_of_length_le (by omega)] at hk2
        refine sh ?_
        refine ICall.pure h.n157.o157.hb (between_c h.n157 s.length 1 16) rfl ?_
        refine sh ?_
        refine rT ?_
        all_goals repeat' (first | exact True.intro | refine And.intro ?_ ?_ | (intro _u; clear _u) | (with_reducible first | refine eM ?_ ?_ | refine eF ?_ ?_ ?_ | refine eN ?_ | refine eL ?_ ?_ ?_ | refine eA ?_ ?_ | refine IWk.mk ⟨_, hp, rfl⟩ ?_ ?_) | refine IWk.mk ⟨_, hp, rfl⟩ ?_ ?_)
        all_goals first | with_reducible rfl | omega | exact Or.inl (by decide) | (simp; done) | rfl | skip
        simp [named, hk2]

def pchk (p : Pl) : Int :=
  if ¬ (1 ≤ p.w ∧ p.w ≤ 64) ∨ ¬ (1 ≤ p.h ∧ p.h ≤ 64) ∨ ¬ (1 ≤ p.deep ∧ p.deep ≤ 4) then 2
  else if named p.name = false ∨ (p.data.length : Int) ≠ p.w * p.h * p.deep then 5
  else if p.data.all (fun x => decide (0 ≤ x) && decide (x ≤ 65535)) = false then 5 else 0

theorem pcheck_c {R : Env} (h : N153 R) (p : Pl) (hs : p.name.length ≤ 1073741824) : R.Pc 153 [.agg p.row] (.int .i64 (pchk p)) :=
  h.o153.enter 60 rfl fun X bb hfit hp => by
    refine sh ?_
    refine ICall.pure h.n157.o157.hb (between_c h.n157 p.w 1 64) rfl ?_
    refine sh ?_
    refine cS (fun h1 => ?_) (fun h1 => ?_)
    · refine sh ?_
      refine rT ?_
      all_goals repeat' (first | exact True.intro | refine And.intro ?_ ?_ | (intro _u; clear _u) | (with_reducible first | refine eM ?_ ?_ | refine eF ?_ ?_ ?_ | refine eN ?_ | refine eL ?_ ?_ ?_ | refine eA ?_ ?_ | refine IWk.mk ⟨_, hp, rfl⟩ ?_ ?_) | refine IWk.mk ⟨_, hp, rfl⟩ ?_ ?_)
      all_goals first | with_reducible rfl | omega | exact Or.inl (by decide) | (simp; done) | rfl | skip
      unfold pchk; rw [if_pos (.inl (by simp at h1 ⊢; omega))]
    · refine sh ?_
      refine ICall.pure h.n157.o157.hb (between_c h.n157 p.h 1 64) rfl ?_
      refine sh ?_
      refine cS (fun h2 => ?_) (fun h2 => ?_)
      · refine sh ?_
        refine rT ?_
        all_goals repeat' (first | exact True.intro | refine And.intro ?_ ?_ | (intro _u; clear _u) | (with_reducible first | refine eM ?_ ?_ | refine eF ?_ ?_ ?_ | refine eN ?_ | refine eL ?_ ?_ ?_ | refine eA ?_ ?_ | refine IWk.mk ⟨_, hp, rfl⟩ ?_ ?_) | refine IWk.mk ⟨_, hp, rfl⟩ ?_ ?_)
        all_goals first | with_reducible rfl | omega | exact Or.inl (by decide) | (simp; done) | rfl | skip
        unfold pchk; rw [if_pos (.inr (.inl (by simp at h2 ⊢; omega)))]
      · refine sh ?_
        refine ICall.pure h.n157.o157.hb (between_c h.n157 p.deep 1 4) rfl ?_
        refine sh ?_
        refine cS (fun h3 => ?_) (fun h3 => ?_)
        · refine sh ?_
          refine rT ?_
          all_goals repeat' (first | exact True.intro | refine And.intro ?_ ?_ | (intro _u; clear _u) | (with_reducible first | refine eM ?_ ?_ | refine eF ?_ ?_ ?_ | refine eN ?_ | refine eL ?_ ?_ ?_ | refine eA ?_ ?_ | refine IWk.mk ⟨_, hp, rfl⟩ ?_ ?_) | refine IWk.mk ⟨_, hp, rfl⟩ ?_ ?_)
          all_goals first | with_reducible rfl | omega | exact Or.inl (by decide) | (simp; done) | rfl | skip
          unfold pchk; rw [if_pos (.inr (.inr (by simp at h3 ⊢; omega)))]
        · have hw : 1 ≤ p.w ∧ p.w ≤ 64 := by simp at h1; omega
          have hh : 1 ≤ p.h ∧ p.h ≤ 64 := by simp at h2; omega
          have hd : 1 ≤ p.deep ∧ p.deep ≤ 4 := by simp at h3; omega
          have e0 : pchk p = if named p.name = false ∨ (p.data.length : Int) ≠ p.w * p.h * p.deep then 5 else if p.data.all (fun x => decide (0 ≤ x) && decide (x ≤ 65535)) = false then 5 else 0 := by
            unfold pchk; rw [if_neg (by omega)]
          rw [e0]
          refine sh ?_
          refine ICall.pure h.n158.o158.hb (named_c h.n158 p.name hs) rfl ?_
          have b1 : 0 ≤ p.w * p.h ∧ p.w * p.h ≤ 4096 := ⟨Int.mul_nonneg (by omega) (by omega), by have := Int.mul_le_mul hw.2 hh.2 (by omega) (by omega); omega⟩
          have b2 : 0 ≤ p.w * p.h * p.deep ∧ p.w * p.h * p.deep ≤ 16384 := ⟨Int.mul_nonneg b1.1 (by omega), by have := Int.mul_le_mul b1.2 hd.2 (by omega) (by omega); omega⟩
          cases hn : named p.name with
          | false =>
            refine sh ?_
            exact rT
          | true =>
            refine sh ?_
            refine cS (fun h4 => ?_) (fun h4 => ?_)
            · refine sh ?_
              exact rT
            · rw [if_neg (by simp; omega)]
              refine sh ?_
              refine lPa 60 (fun k : Nat => k ≤ p.data.length ∧ (p.data.take k).all (fun x => decide (0 ≤ x) && decide (x ≤ 65535)) = true) (fun k => ⟨[(40, .isl 1 (slcK .i64 p.data)), (41, .int .i64 p.data.length), (42, .int .i64 k)], [], 1⟩) (fun k => p.data.length - k) (0) ?_ ?_
              · exact ⟨Nat.zero_le _, by simp⟩
              · intro k hk
                dsimp only
                refine sh ?_
                refine cS (fun h5 => ?_) (fun h5 => ?_)
                · obtain ⟨x, hx⟩ : ∃ u_, p.data[k]? = some u_ := ⟨_, List.getElem?_eq_getElem (by first | omega | (simp <;> omega))⟩
                  refine sh ?_
                  refine eget_map hx ?_
                  refine sh ?_
                  refine ICall.pure h.n157.o157.hb (between_c h.n157 x 0 65535) rfl ?_
                  refine sh ?_
                  refine cS (fun h6 => ?_) (fun h6 => ?_)
                  · refine sh ?_
                    refine rT ?_
                    all_goals repeat' (first | exact True.intro | refine And.intro ?_ ?_ | (intro _u; clear _u) | (with_reducible first | refine eM ?_ ?_ | refine eF ?_ ?_ ?_ | refine eN ?_ | refine eL ?_ ?_ ?_ | refine eA ?_ ?_ | refine IWk.mk ⟨_, hp, rfl⟩ ?_ ?_) | refine IWk.mk ⟨_, hp, rfl⟩ ?_ ?_)
                    all_goals first | with_reducible rfl | omega | exact Or.inl (by decide) | (simp; done) | rfl | skip
                    rw [if_pos (all_bad hx (by simpa using h6))]
                  · refine sh ?_
                    refine nXa (k + 1) ?_ ?_
                    · refine ⟨by omega, ?_⟩
                      rw [all_take_succ hx, hk.2]; simpa using h6
                    · omega
                · have hk2 := hk.2
                  rw [List.take_of_length_le (by omega)] at hk2
                  rw [if_neg (by rw [hk2]; decide)]
                  refine sh ?_
                  exact rT
def slP (l : List Pl) : List (List AV) := l.map Pl.row
@[simp] theorem slP_nil : slP [] = [] := rfl
@[simp] theorem slP_length (l : List Pl) : (slP l).length = l.length := by simp [slP]
@[simp] theorem slP_append (a b : List Pl) : slP (a ++ b) = slP a ++ slP b := by simp [slP]
@[simp] theorem slP_NmL (l : List Pl) : NmL (slP l) := by simp [slP, Pl.row]
instance {l : List Pl} : LenOf (slP l) l.length := ⟨slP_length l⟩
end Go.UM

/- Rows of three numbers. -/

namespace Go.UM
open Go.AM

/-- Three numbers. -/
structure T3 where
  (a b c : Int)
def z3 : T3 := ⟨0, 0, 0⟩
def t3 (x : T3) : List AV := [.int .i64 x.a, .int .i64 x.b, .int .i64 x.c]
def slc3 (l : List T3) : List (List AV) := l.map t3
@[simp] theorem slc3_nil : slc3 [] = [] := rfl
@[simp] theorem slc3_length (l : List T3) : (slc3 l).length = l.length := by simp [slc3]
@[simp] theorem slc3_append (a b : List T3) : slc3 (a ++ b) = slc3 a ++ slc3 b := by simp [slc3]
@[simp] theorem slc3_NmL (l : List T3) : NmL (slc3 l) := by simp [slc3, t3]
@[simp] theorem slc3_FlL (l : List T3) : FlL (slc3 l) := by simp [slc3, t3]
theorem slc3_take (l : List T3) (k : Nat) : (slc3 l).take k = slc3 (l.take k) := by simp [slc3, List.map_take]
theorem slc3_drop (l : List T3) (k : Nat) : (slc3 l).drop k = slc3 (l.drop k) := by simp [slc3, List.map_drop]
instance {l : List T3} : LenOf (slc3 l) l.length := ⟨slc3_length l⟩
instance {l : List T3} {k : Nat} : TkOf ((slc3 l).take k) (slc3 (l.take k)) := ⟨slc3_take l k⟩
instance {l : List T3} {k : Nat} : TkOf ((slc3 l).drop k) (slc3 (l.drop k)) := ⟨slc3_drop l k⟩
end Go.UM

/- Images, and the planes that they are (plain). -/


namespace Go.UM
open Go.AM
set_option maxRecDepth 4000

structure Im where
  (w h : Int)
  be : List T3
  (al de : List Int)
  no : List T3
  (as la : List Int)
def Im.row (i : Im) : List AV := [.int .i64 i.w, .int .i64 i.h, .isl 3 (slc3 i.be), .isl 1 (slcK .i64 i.al), .isl 1 (slcK .i64 i.de), .isl 3 (slc3 i.no), .isl 1 (slcK .i64 i.as), .isl 1 (slcK .i64 i.la)]
def zIm : Im := ⟨0, 0, [], [], [], [], [], []⟩

def fl3 (l : List T3) : List Int := l.flatMap fun t => [t.a, t.b, t.c]
theorem fl3_len (l : List T3) : (fl3 l).length = 3 * l.length := by
  induction l with
  | nil => rfl
  | cons x r ih => simp [fl3] at ih ⊢; omega
theorem fl3_succ {l : List T3} {k : Nat} {x : T3} (h : l[k]? = some x) : fl3 (l.take (k + 1)) = fl3 (l.take k) ++ [x.a, x.b, x.c] := by
  unfold fl3; rw [take_succ_get h]; simp

def nmB : List UInt8 := [66, 69, 65, 85, 84, 89]
def nmA : List UInt8 := [65, 76, 80, 72, 65]
def nmD : List UInt8 := [68, 69, 80, 84, 72]
def nmN : List UInt8 := [78, 79, 82, 77, 65, 76]
def nmS : List UInt8 := [65, 83, 83, 69, 84]
def nmL : List UInt8 := [76, 65, 66, 69, 76]
def Im.p0 (i : Im) : Pl := ⟨i.w, i.h, 3, nmB, fl3 i.be⟩
def Im.p1 (i : Im) : Pl := ⟨i.w, i.h, 1, nmA, i.al⟩
def Im.p2 (i : Im) : Pl := ⟨i.w, i.h, 1, nmD, i.de⟩
def Im.p3 (i : Im) : Pl := ⟨i.w, i.h, 3, nmN, fl3 i.no⟩
def Im.p4 (i : Im) : Pl := ⟨i.w, i.h, 1, nmS, i.as⟩
def Im.p5 (i : Im) : Pl := ⟨i.w, i.h, 1, nmL, i.la⟩
def Im.pls (i : Im) : List Pl := [i.p0, i.p1, i.p2, i.p3, i.p4, i.p5]
/-- May an image be? -/
def ichk (i : Im) : Int :=
  if pchk i.p0 ≠ 0 then pchk i.p0 else if pchk i.p1 ≠ 0 then pchk i.p1 else if pchk i.p2 ≠ 0 then pchk i.p2
  else if pchk i.p3 ≠ 0 then pchk i.p3 else if pchk i.p4 ≠ 0 then pchk i.p4 else if pchk i.p5 ≠ 0 then pchk i.p5 else 0
def planes (i : Im) : List Pl × Int := if ichk i ≠ 0 then ([], ichk i) else (i.pls, 0)
theorem ichk_all {i : Im} (h : ichk i = 0) : pchk i.p0 = 0 ∧ pchk i.p1 = 0 ∧ pchk i.p2 = 0 ∧ pchk i.p3 = 0 ∧ pchk i.p4 = 0 ∧ pchk i.p5 = 0 := by
  unfold ichk at h
  repeat' split at h
  all_goals first | (exact absurd h (by assumption)) | skip
  rename_i h0 h1 h2 h3 h4 h5
  simp only [Decidable.not_not] at h0 h1 h2 h3 h4 h5
  exact ⟨h0, h1, h2, h3, h4, h5⟩
theorem ichk_of {i : Im} (h : pchk i.p0 = 0 ∧ pchk i.p1 = 0 ∧ pchk i.p2 = 0 ∧ pchk i.p3 = 0 ∧ pchk i.p4 = 0 ∧ pchk i.p5 = 0) : ichk i = 0 := by
  obtain ⟨h0, h1, h2, h3, h4, h5⟩ := h
  unfold ichk
  rw [if_neg (by simp [h0]), if_neg (by simp [h1]), if_neg (by simp [h2]), if_neg (by simp [h3]), if_neg (by simp [h4]), if_neg (by simp [h5])]

def T3.in16 (t : T3) : Prop := (0 ≤ t.a ∧ t.a ≤ 65535) ∧ (0 ≤ t.b ∧ t.b ≤ 65535) ∧ (0 ≤ t.c ∧ t.c ≤ 65535)
structure Im.Ok (i : Im) : Prop where
  w : 1 ≤ i.w ∧ i.w ≤ 64
  h : 1 ≤ i.h ∧ i.h ≤ 64
  be : (i.be.length : Int) = i.w * i.h
  al : (i.al.length : Int) = i.w * i.h
  de : (i.de.length : Int) = i.w * i.h
  no : (i.no.length : Int) = i.w * i.h
  as : (i.as.length : Int) = i.w * i.h
  la : (i.la.length : Int) = i.w * i.h
  vbe : ∀ t ∈ i.be, t.in16
  val : ∀ x ∈ i.al, 0 ≤ x ∧ x ≤ 65535
  vde : ∀ x ∈ i.de, 0 ≤ x ∧ x ≤ 65535
  vno : ∀ t ∈ i.no, t.in16
  vas : ∀ x ∈ i.as, 0 ≤ x ∧ x ≤ 65535
  vla : ∀ x ∈ i.la, 0 ≤ x ∧ x ≤ 65535

theorem pchk_iff (p : Pl) : pchk p = 0 ↔ (1 ≤ p.w ∧ p.w ≤ 64) ∧ (1 ≤ p.h ∧ p.h ≤ 64) ∧ (1 ≤ p.deep ∧ p.deep ≤ 4) ∧ named p.name = true ∧ (p.data.length : Int) = p.w * p.h * p.deep ∧ ∀ x ∈ p.data, 0 ≤ x ∧ x ≤ 65535 := by
  unfold pchk
  constructor
  · intro h
    split at h
    · cases h
    · split at h
      · cases h
      · split at h
        · cases h
        · rename_i h1 h2 h3
          simp only [Bool.not_eq_false, List.all_eq_true, Bool.and_eq_true, decide_eq_true_eq] at h3
          refine ⟨by omega, by omega, by omega, ?_, by omega, h3⟩
          cases hn : named p.name with
          | true => rfl
          | false => exact absurd (.inl hn) h2
  · rintro ⟨h1, h2, h3, h4, h5, h6⟩
    rw [if_neg (by omega), if_neg (by rw [h4]; simp; exact h5), if_neg]
    simp only [Bool.not_eq_false, List.all_eq_true, Bool.and_eq_true, decide_eq_true_eq]
    exact h6
theorem fl3_in {l : List T3} : (∀ x ∈ fl3 l, 0 ≤ x ∧ x ≤ 65535) ↔ ∀ t ∈ l, t.in16 := by
  unfold fl3 T3.in16
  constructor
  · intro h t ht
    exact ⟨h _ (List.mem_flatMap.2 ⟨t, ht, by simp⟩), h _ (List.mem_flatMap.2 ⟨t, ht, by simp⟩), h _ (List.mem_flatMap.2 ⟨t, ht, by simp⟩)⟩
  · intro h x hx
    obtain ⟨t, ht, hx⟩ := List.mem_flatMap.1 hx
    have := h t ht
    simp at hx
    rcases hx with rfl | rfl | rfl
    · exact this.1
    · exact this.2.1
    · exact this.2.2
theorem named_all : named nmB = true ∧ named nmA = true ∧ named nmD = true ∧ named nmN = true ∧ named nmS = true ∧ named nmL = true := by decide
theorem ichk_ok {i : Im} : ichk i = 0 ↔ i.Ok := by
  obtain ⟨n0, n1, n2, n3, n4, n5⟩ := named_all
  constructor
  · intro h
    obtain ⟨h0, h1, h2, h3, h4, h5⟩ := ichk_all h
    rw [pchk_iff] at h0 h1 h2 h3 h4 h5
    obtain ⟨a1, a2, a3, a4, a5, a6⟩ := h0
    obtain ⟨_, _, _, _, b5, b6⟩ := h1
    obtain ⟨_, _, _, _, c5, c6⟩ := h2
    obtain ⟨_, _, _, _, d5, d6⟩ := h3
    obtain ⟨_, _, _, _, e5, e6⟩ := h4
    obtain ⟨_, _, _, _, f5, f6⟩ := h5
    simp only [Im.p0, Im.p1, Im.p2, Im.p3, Im.p4, Im.p5, fl3_len] at a1 a2 a5 a6 b5 b6 c5 c6 d5 d6 e5 e6 f5 f6
    exact ⟨a1, a2, by omega, by omega, by omega, by omega, by omega, by omega, fl3_in.1 a6, b6, c6, fl3_in.1 d6, e6, f6⟩
  · intro h
    have hw := h.w
    have hh := h.h
    have l0 := h.be
    have l1 := h.al
    have l2 := h.de
    have l3 := h.no
    have l4 := h.as
    have l5 := h.la
    refine ichk_of ⟨(pchk_iff _).2 ⟨hw, hh, ⟨by show (1 : Int) ≤ _; simp only [Im.p0, Im.p1, Im.p2, Im.p3, Im.p4, Im.p5]; omega, by simp only [Im.p0, Im.p1, Im.p2, Im.p3, Im.p4, Im.p5]; omega⟩, n0, ?_, fl3_in.2 h.vbe⟩, (pchk_iff _).2 ⟨hw, hh, ⟨by show (1 : Int) ≤ _; simp only [Im.p0, Im.p1, Im.p2, Im.p3, Im.p4, Im.p5]; omega, by simp only [Im.p0, Im.p1, Im.p2, Im.p3, Im.p4, Im.p5]; omega⟩, n1, ?_, h.val⟩, (pchk_iff _).2 ⟨hw, hh, ⟨by show (1 : Int) ≤ _; simp only [Im.p0, Im.p1, Im.p2, Im.p3, Im.p4, Im.p5]; omega, by simp only [Im.p0, Im.p1, Im.p2, Im.p3, Im.p4, Im.p5]; omega⟩, n2, ?_, h.vde⟩, (pchk_iff _).2 ⟨hw, hh, ⟨by show (1 : Int) ≤ _; simp only [Im.p0, Im.p1, Im.p2, Im.p3, Im.p4, Im.p5]; omega, by simp only [Im.p0, Im.p1, Im.p2, Im.p3, Im.p4, Im.p5]; omega⟩, n3, ?_, fl3_in.2 h.vno⟩, (pchk_iff _).2 ⟨hw, hh, ⟨by show (1 : Int) ≤ _; simp only [Im.p0, Im.p1, Im.p2, Im.p3, Im.p4, Im.p5]; omega, by simp only [Im.p0, Im.p1, Im.p2, Im.p3, Im.p4, Im.p5]; omega⟩, n4, ?_, h.vas⟩, (pchk_iff _).2 ⟨hw, hh, ⟨by show (1 : Int) ≤ _; simp only [Im.p0, Im.p1, Im.p2, Im.p3, Im.p4, Im.p5]; omega, by simp only [Im.p0, Im.p1, Im.p2, Im.p3, Im.p4, Im.p5]; omega⟩, n5, ?_, h.vla⟩⟩
    all_goals (simp only [Im.p0, Im.p1, Im.p2, Im.p3, Im.p4, Im.p5, fl3_len]; omega)
theorem Im.Ok.few {i : Im} (h : i.Ok) : 1 ≤ i.w * i.h ∧ i.w * i.h ≤ 4096 :=
  ⟨by have := Int.mul_le_mul h.w.1 h.h.1 (by omega) (by have := h.w; omega); omega, by have := Int.mul_le_mul h.w.2 h.h.2 (by have := h.h; omega) (by omega); omega⟩
/-- No error but these. -/
theorem ichk_bad {i : Im} : ichk i = 0 ∨ ichk i = 2 ∨ ichk i = 5 := by
  have : ∀ p : Pl, pchk p = 0 ∨ pchk p = 2 ∨ pchk p = 5 := fun p => by
    unfold pchk; repeat' split
    all_goals simp
  unfold ichk
  repeat' split
  all_goals first | exact this _ | simp
end Go.UM
