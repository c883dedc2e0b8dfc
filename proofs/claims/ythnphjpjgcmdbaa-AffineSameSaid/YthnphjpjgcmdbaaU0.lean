/- Of the reckoning machine, and what is proved with it: texts joined by program. -/
import Derived.Test.YthnphjpjgcmdbaaK2
import Derived.Laws.Externs
set_option linter.all false

/- The resolved code of package lib, function by function; numbers are those of the register, the same for all programs. -/

namespace Go.UM
open Go.AM
/-- bytes.Equal -/
def c47 : IFn := { np := 2, rs := [.t 4], body :=
 (.seq
  (.ops [⟨some 4, none, .mv (.k (.bool false))⟩])
  (.seq
   (.ops [⟨some 5, none, .mv (.t 0)⟩,
     ⟨some 6, none, .b2s (.t 5)⟩,
     ⟨some 7, none, .mv (.t 1)⟩,
     ⟨some 8, none, .b2s (.t 7)⟩,
     ⟨some 9, none, .bst .eql (.t 6) (.t 8)⟩,
     ⟨some 4, none, .mv (.t 9)⟩])
   (.keep [4]
    .ret))) }
structure N47 (R : Env) : Prop where
  o47 : R.Fn 47 c47
/-- slices.Clone[[]byte,byte][[]uint8,uint8] -/
def c62 : IFn := { np := 1, rs := [.t 2], body :=
 (.seq
  (.ops [⟨some 2, none, .mv (.k (.nils))⟩])
  (.seq
   (.seq
    (.ops [⟨some 3, none, .mv (.t 0)⟩,
      ⟨some 4, none, .isnS false (.t 3)⟩])
    (.cond (.t 4)
     (.seq
      (.ops [⟨some 2, none, .mv (.k (.nils))⟩])
      .ret)
     .skip))
   (.keep [0]
    (.seq
     (.ops [⟨some 5, none, .bslice 4 1 0 [.int .u8 0] []⟩,
       ⟨some 6, none, .mv (.t 0)⟩,
       ⟨some 7, none, .app 4 1 (.t 5) (.t 6)⟩,
       ⟨some 2, none, .mv (.t 7)⟩])
     .ret)))) }
structure N62 (R : Env) : Prop where
  o62 : R.Fn 62 c62
/-- slices.Index[[]int,int][[]int,int] -/
def c106 : IFn := { np := 2, rs := [.t 4], body :=
 (.seq
  (.ops [⟨some 4, none, .mv (.k (.int .i64 0))⟩])
  (.seq
   (.seq
    (.ops [⟨some 6, none, .mv (.t 0)⟩,
      ⟨some 7, none, .lenS (.t 6)⟩,
      ⟨some 8, none, .mv (.k (.int .i64 0))⟩])
    (.keep [0, 1, 7, 8]
     (.block 0
      (.loop
       (.seq
        (.ops [⟨some 9, none, .bin .lss (.t 8) (.t 7)⟩])
        (.seq
         (.cond (.t 9)
          .skip
          (.exit 0))
         (.keep [0, 1, 7, 8]
          (.seq
           (.block 1
            (.seq
             (.ops [⟨some 10, none, .mv (.t 8)⟩,
               ⟨some 5, none, .mv (.t 10)⟩])
             (.seq
              (.ops [⟨some 11, none, .mv (.t 1)⟩,
                ⟨some 12, none, .mv (.t 0)⟩,
                ⟨some 13, none, .mv (.t 5)⟩,
                ⟨some 14, none, .idxS 1 (.t 12) (.t 13)⟩,
                ⟨some 15, none, .load false 1 (.t 14)⟩,
                ⟨some 16, none, .bin .eql (.t 11) (.t 15)⟩])
              (.keep [0, 1, 5, 7, 8, 16]
               (.cond (.t 16)
                (.seq
                 (.ops [⟨some 17, none, .mv (.t 5)⟩,
                   ⟨some 4, none, .mv (.t 17)⟩])
                 .ret)
                .skip)))))
           (.keep [0, 1, 7, 8]
            (.ops [⟨some 18, none, .bin .add (.t 8) (.k (.int .i64 1))⟩,
              ⟨some 8, none, .mv (.t 18)⟩]))))))))))
   (.keep []
    (.seq
     (.ops [⟨some 4, none, .mv (.k (.int .i64 (-1)))⟩])
     .ret)))) }
structure N106 (R : Env) : Prop where
  o106 : R.Fn 106 c106
/-- slices.Contains[[]int,int][[]int,int] -/
def c100 : IFn := { np := 2, rs := [.t 4], body :=
 (.seq
  (.ops [⟨some 4, none, .mv (.k (.bool false))⟩])
  (.seq
   (.ops [⟨some 5, none, .mv (.t 0)⟩,
     ⟨some 6, none, .mv (.t 1)⟩,
     ⟨some 7, none, .call 106 [.t 5, .t 6]⟩,
     ⟨some 8, none, .bin .geq (.t 7) (.k (.int .i64 0))⟩,
     ⟨some 4, none, .mv (.t 8)⟩])
   (.keep [4]
    .ret))) }
structure N100 (R : Env) : Prop where
  o100 : R.Fn 100 c100
  n106 : N106 R
/-- slices.Clone[[][3]int,[3]int][[][3]int,[3]int] -/
def c101 : IFn := { np := 1, rs := [.t 2], body :=
 (.seq
  (.ops [⟨some 2, none, .mv (.k (.nils))⟩])
  (.seq
   (.seq
    (.ops [⟨some 3, none, .mv (.t 0)⟩,
      ⟨some 4, none, .isnS false (.t 3)⟩])
    (.cond (.t 4)
     (.seq
      (.ops [⟨some 2, none, .mv (.k (.nils))⟩])
      .ret)
     .skip))
   (.keep [0]
    (.seq
     (.ops [⟨some 5, none, .bslice 13 3 0 [.int .i64 0, .int .i64 0, .int .i64 0] []⟩,
       ⟨some 6, none, .mv (.t 0)⟩,
       ⟨some 7, none, .app 13 3 (.t 5) (.t 6)⟩,
       ⟨some 2, none, .mv (.t 7)⟩])
     .ret)))) }
structure N101 (R : Env) : Prop where
  o101 : R.Fn 101 c101
/-- slices.Clone[[]int,int][[]int,int] -/
def c156 : IFn := { np := 1, rs := [.t 2], body :=
 (.seq
  (.ops [⟨some 2, none, .mv (.k (.nils))⟩])
  (.seq
   (.seq
    (.ops [⟨some 3, none, .mv (.t 0)⟩,
      ⟨some 4, none, .isnS false (.t 3)⟩])
    (.cond (.t 4)
     (.seq
      (.ops [⟨some 2, none, .mv (.k (.nils))⟩])
      .ret)
     .skip))
   (.keep [0]
    (.seq
     (.ops [⟨some 5, none, .bslice 10 1 0 [.int .i64 0] []⟩,
       ⟨some 6, none, .mv (.t 0)⟩,
       ⟨some 7, none, .app 10 1 (.t 5) (.t 6)⟩,
       ⟨some 2, none, .mv (.t 7)⟩])
     .ret)))) }
structure N156 (R : Env) : Prop where
  o156 : R.Fn 156 c156
/-- slices.IndexFunc[[]umbra.api.Point,umbra.api.Point][[]api.Point,umbra.api.Point] -/
def c217 : IFn := { np := 2, rs := [.t 4], body :=
 (.seq
  (.ops [⟨some 4, none, .mv (.k (.int .i64 0))⟩])
  (.seq
   (.seq
    (.ops [⟨some 6, none, .mv (.t 0)⟩,
      ⟨some 7, none, .lenS (.t 6)⟩,
      ⟨some 8, none, .mv (.k (.int .i64 0))⟩])
    (.keep [0, 1, 7, 8]
     (.block 0
      (.loop
       (.seq
        (.ops [⟨some 9, none, .bin .lss (.t 8) (.t 7)⟩])
        (.seq
         (.cond (.t 9)
          .skip
          (.exit 0))
         (.keep [0, 1, 7, 8]
          (.seq
           (.block 1
            (.seq
             (.ops [⟨some 10, none, .mv (.t 8)⟩,
               ⟨some 5, none, .mv (.t 10)⟩])
             (.seq
              (.ops [⟨some 11, none, .mv (.t 1)⟩,
                ⟨some 12, none, .mv (.t 0)⟩,
                ⟨some 13, none, .mv (.t 5)⟩,
                ⟨some 14, none, .idxS 3 (.t 12) (.t 13)⟩,
                ⟨some 15, none, .load true 3 (.t 14)⟩,
                ⟨some 16, none, .callv (.t 11) [.t 15]⟩])
              (.keep [0, 1, 5, 7, 8, 16]
               (.cond (.t 16)
                (.seq
                 (.ops [⟨some 17, none, .mv (.t 5)⟩,
                   ⟨some 4, none, .mv (.t 17)⟩])
                 .ret)
                .skip)))))
           (.keep [0, 1, 7, 8]
            (.ops [⟨some 18, none, .bin .add (.t 8) (.k (.int .i64 1))⟩,
              ⟨some 8, none, .mv (.t 18)⟩]))))))))))
   (.keep []
    (.seq
     (.ops [⟨some 4, none, .mv (.k (.int .i64 (-1)))⟩])
     .ret)))) }
structure N217 (R : Env) : Prop where
  o217 : R.Fn 217 c217
/-- slices.ContainsFunc[[]umbra.api.Point,umbra.api.Point][[]api.Point,umbra.api.Point] -/
def c209 : IFn := { np := 2, rs := [.t 4], body :=
 (.seq
  (.ops [⟨some 4, none, .mv (.k (.bool false))⟩])
  (.seq
   (.ops [⟨some 5, none, .mv (.t 0)⟩,
     ⟨some 6, none, .mv (.t 1)⟩,
     ⟨some 7, none, .call 217 [.t 5, .t 6]⟩,
     ⟨some 8, none, .bin .geq (.t 7) (.k (.int .i64 0))⟩,
     ⟨some 4, none, .mv (.t 8)⟩])
   (.keep [4]
    .ret))) }
structure N209 (R : Env) : Prop where
  o209 : R.Fn 209 c209
  n217 : N217 R
/-- slices.IndexFunc[[][2]int,[2]int][[][2]int,[2]int] -/
def c218 : IFn := { np := 2, rs := [.t 4], body :=
 (.seq
  (.ops [⟨some 4, none, .mv (.k (.int .i64 0))⟩])
  (.seq
   (.seq
    (.ops [⟨some 6, none, .mv (.t 0)⟩,
      ⟨some 7, none, .lenS (.t 6)⟩,
      ⟨some 8, none, .mv (.k (.int .i64 0))⟩])
    (.keep [0, 1, 7, 8]
     (.block 0
      (.loop
       (.seq
        (.ops [⟨some 9, none, .bin .lss (.t 8) (.t 7)⟩])
        (.seq
         (.cond (.t 9)
          .skip
          (.exit 0))
         (.keep [0, 1, 7, 8]
          (.seq
           (.block 1
            (.seq
             (.ops [⟨some 10, none, .mv (.t 8)⟩,
               ⟨some 5, none, .mv (.t 10)⟩])
             (.seq
              (.ops [⟨some 11, none, .mv (.t 1)⟩,
                ⟨some 12, none, .mv (.t 0)⟩,
                ⟨some 13, none, .mv (.t 5)⟩,
                ⟨some 14, none, .idxS 2 (.t 12) (.t 13)⟩,
                ⟨some 15, none, .load true 2 (.t 14)⟩,
                ⟨some 16, none, .callv (.t 11) [.t 15]⟩])
              (.keep [0, 1, 5, 7, 8, 16]
               (.cond (.t 16)
                (.seq
                 (.ops [⟨some 17, none, .mv (.t 5)⟩,
                   ⟨some 4, none, .mv (.t 17)⟩])
                 .ret)
                .skip)))))
           (.keep [0, 1, 7, 8]
            (.ops [⟨some 18, none, .bin .add (.t 8) (.k (.int .i64 1))⟩,
              ⟨some 8, none, .mv (.t 18)⟩]))))))))))
   (.keep []
    (.seq
     (.ops [⟨some 4, none, .mv (.k (.int .i64 (-1)))⟩])
     .ret)))) }
structure N218 (R : Env) : Prop where
  o218 : R.Fn 218 c218
/-- slices.ContainsFunc[[][2]int,[2]int][[][2]int,[2]int] -/
def c210 : IFn := { np := 2, rs := [.t 4], body :=
 (.seq
  (.ops [⟨some 4, none, .mv (.k (.bool false))⟩])
  (.seq
   (.ops [⟨some 5, none, .mv (.t 0)⟩,
     ⟨some 6, none, .mv (.t 1)⟩,
     ⟨some 7, none, .call 218 [.t 5, .t 6]⟩,
     ⟨some 8, none, .bin .geq (.t 7) (.k (.int .i64 0))⟩,
     ⟨some 4, none, .mv (.t 8)⟩])
   (.keep [4]
    .ret))) }
structure N210 (R : Env) : Prop where
  o210 : R.Fn 210 c210
  n218 : N218 R
/-- slices.IndexFunc[[][3]int,[3]int][[][3]int,[3]int] -/
def c219 : IFn := { np := 2, rs := [.t 4], body :=
 (.seq
  (.ops [⟨some 4, none, .mv (.k (.int .i64 0))⟩])
  (.seq
   (.seq
    (.ops [⟨some 6, none, .mv (.t 0)⟩,
      ⟨some 7, none, .lenS (.t 6)⟩,
      ⟨some 8, none, .mv (.k (.int .i64 0))⟩])
    (.keep [0, 1, 7, 8]
     (.block 0
      (.loop
       (.seq
        (.ops [⟨some 9, none, .bin .lss (.t 8) (.t 7)⟩])
        (.seq
         (.cond (.t 9)
          .skip
          (.exit 0))
         (.keep [0, 1, 7, 8]
          (.seq
           (.block 1
            (.seq
             (.ops [⟨some 10, none, .mv (.t 8)⟩,
               ⟨some 5, none, .mv (.t 10)⟩])
             (.seq
              (.ops [⟨some 11, none, .mv (.t 1)⟩,
                ⟨some 12, none, .mv (.t 0)⟩,
                ⟨some 13, none, .mv (.t 5)⟩,
                ⟨some 14, none, .idxS 3 (.t 12) (.t 13)⟩,
                ⟨some 15, none, .load true 3 (.t 14)⟩,
                ⟨some 16, none, .callv (.t 11) [.t 15]⟩])
              (.keep [0, 1, 5, 7, 8, 16]
               (.cond (.t 16)
                (.seq
                 (.ops [⟨some 17, none, .mv (.t 5)⟩,
                   ⟨some 4, none, .mv (.t 17)⟩])
                 .ret)
                .skip)))))
           (.keep [0, 1, 7, 8]
            (.ops [⟨some 18, none, .bin .add (.t 8) (.k (.int .i64 1))⟩,
              ⟨some 8, none, .mv (.t 18)⟩]))))))))))
   (.keep []
    (.seq
     (.ops [⟨some 4, none, .mv (.k (.int .i64 (-1)))⟩])
     .ret)))) }
structure N219 (R : Env) : Prop where
  o219 : R.Fn 219 c219
/-- slices.ContainsFunc[[][3]int,[3]int][[][3]int,[3]int] -/
def c211 : IFn := { np := 2, rs := [.t 4], body :=
 (.seq
  (.ops [⟨some 4, none, .mv (.k (.bool false))⟩])
  (.seq
   (.ops [⟨some 5, none, .mv (.t 0)⟩,
     ⟨some 6, none, .mv (.t 1)⟩,
     ⟨some 7, none, .call 219 [.t 5, .t 6]⟩,
     ⟨some 8, none, .bin .geq (.t 7) (.k (.int .i64 0))⟩,
     ⟨some 4, none, .mv (.t 8)⟩])
   (.keep [4]
    .ret))) }
structure N211 (R : Env) : Prop where
  o211 : R.Fn 211 c211
  n219 : N219 R
/-- math.bits.Mul64 -/
def c276 : IFn := { np := 2, rs := [.t 4, .t 5], body :=
 (.seq
  (.ops [⟨some 4, none, .mv (.k (.int .u64 0))⟩,
    ⟨some 5, none, .mv (.k (.int .u64 0))⟩])
  (.seq
   (.ops [⟨some 14, none, .mv (.t 0)⟩,
     ⟨some 15, none, .bin .and (.t 14) (.k (.int .u64 4294967295))⟩,
     ⟨some 6, none, .mv (.t 15)⟩])
   (.seq
    (.ops [⟨some 16, none, .mv (.t 0)⟩,
      ⟨some 17, none, .bin .shr (.t 16) (.k (.int .u64 32))⟩,
      ⟨some 7, none, .mv (.t 17)⟩])
    (.seq
     (.ops [⟨some 18, none, .mv (.t 1)⟩,
       ⟨some 19, none, .bin .and (.t 18) (.k (.int .u64 4294967295))⟩,
       ⟨some 8, none, .mv (.t 19)⟩])
     (.seq
      (.ops [⟨some 20, none, .mv (.t 1)⟩,
        ⟨some 21, none, .bin .shr (.t 20) (.k (.int .u64 32))⟩,
        ⟨some 9, none, .mv (.t 21)⟩])
      (.seq
       (.ops [⟨some 22, none, .mv (.t 6)⟩,
         ⟨some 23, none, .mv (.t 8)⟩,
         ⟨some 24, none, .bin .mul (.t 22) (.t 23)⟩,
         ⟨some 10, none, .mv (.t 24)⟩])
       (.seq
        (.ops [⟨some 25, none, .mv (.t 7)⟩,
          ⟨some 26, none, .mv (.t 8)⟩,
          ⟨some 27, none, .bin .mul (.t 25) (.t 26)⟩,
          ⟨some 28, none, .mv (.t 10)⟩,
          ⟨some 29, none, .bin .shr (.t 28) (.k (.int .u64 32))⟩,
          ⟨some 30, none, .bin .add (.t 27) (.t 29)⟩,
          ⟨some 11, none, .mv (.t 30)⟩])
        (.keep [0, 1, 6, 7, 9, 11]
         (.seq
          (.ops [⟨some 31, none, .mv (.t 11)⟩,
            ⟨some 32, none, .bin .and (.t 31) (.k (.int .u64 4294967295))⟩,
            ⟨some 12, none, .mv (.t 32)⟩])
          (.seq
           (.ops [⟨some 33, none, .mv (.t 11)⟩,
             ⟨some 34, none, .bin .shr (.t 33) (.k (.int .u64 32))⟩,
             ⟨some 13, none, .mv (.t 34)⟩])
           (.seq
            (.ops [⟨some 35, none, .mv (.t 12)⟩,
              ⟨some 36, none, .mv (.t 6)⟩,
              ⟨some 37, none, .mv (.t 9)⟩,
              ⟨some 38, none, .bin .mul (.t 36) (.t 37)⟩,
              ⟨some 39, none, .bin .add (.t 35) (.t 38)⟩,
              ⟨some 12, none, .mv (.t 39)⟩])
            (.keep [0, 1, 7, 9, 12, 13]
             (.seq
              (.ops [⟨some 40, none, .mv (.t 7)⟩,
                ⟨some 41, none, .mv (.t 9)⟩,
                ⟨some 42, none, .bin .mul (.t 40) (.t 41)⟩,
                ⟨some 43, none, .mv (.t 13)⟩,
                ⟨some 44, none, .bin .add (.t 42) (.t 43)⟩,
                ⟨some 45, none, .mv (.t 12)⟩,
                ⟨some 46, none, .bin .shr (.t 45) (.k (.int .u64 32))⟩,
                ⟨some 47, none, .bin .add (.t 44) (.t 46)⟩,
                ⟨some 4, none, .mv (.t 47)⟩])
              (.keep [0, 1, 4]
               (.seq
                (.ops [⟨some 48, none, .mv (.t 0)⟩,
                  ⟨some 49, none, .mv (.t 1)⟩,
                  ⟨some 50, none, .bin .mul (.t 48) (.t 49)⟩,
                  ⟨some 5, none, .mv (.t 50)⟩])
                .ret))))))))))))))) }
structure N276 (R : Env) : Prop where
  o276 : R.Fn 276 c276
structure N286 (R : Env) : Prop where
  x286 : R.Xn 286 "math/bits.Sub64"
/-- slices.IndexFunc[[]int,int][[]int,int] -/
def c324 : IFn := { np := 2, rs := [.t 4], body :=
 (.seq
  (.ops [⟨some 4, none, .mv (.k (.int .i64 0))⟩])
  (.seq
   (.seq
    (.ops [⟨some 6, none, .mv (.t 0)⟩,
      ⟨some 7, none, .lenS (.t 6)⟩,
      ⟨some 8, none, .mv (.k (.int .i64 0))⟩])
    (.keep [0, 1, 7, 8]
     (.block 0
      (.loop
       (.seq
        (.ops [⟨some 9, none, .bin .lss (.t 8) (.t 7)⟩])
        (.seq
         (.cond (.t 9)
          .skip
          (.exit 0))
         (.keep [0, 1, 7, 8]
          (.seq
           (.block 1
            (.seq
             (.ops [⟨some 10, none, .mv (.t 8)⟩,
               ⟨some 5, none, .mv (.t 10)⟩])
             (.seq
              (.ops [⟨some 11, none, .mv (.t 1)⟩,
                ⟨some 12, none, .mv (.t 0)⟩,
                ⟨some 13, none, .mv (.t 5)⟩,
                ⟨some 14, none, .idxS 1 (.t 12) (.t 13)⟩,
                ⟨some 15, none, .load false 1 (.t 14)⟩,
                ⟨some 16, none, .callv (.t 11) [.t 15]⟩])
              (.keep [0, 1, 5, 7, 8, 16]
               (.cond (.t 16)
                (.seq
                 (.ops [⟨some 17, none, .mv (.t 5)⟩,
                   ⟨some 4, none, .mv (.t 17)⟩])
                 .ret)
                .skip)))))
           (.keep [0, 1, 7, 8]
            (.ops [⟨some 18, none, .bin .add (.t 8) (.k (.int .i64 1))⟩,
              ⟨some 8, none, .mv (.t 18)⟩]))))))))))
   (.keep []
    (.seq
     (.ops [⟨some 4, none, .mv (.k (.int .i64 (-1)))⟩])
     .ret)))) }
structure N324 (R : Env) : Prop where
  o324 : R.Fn 324 c324
/-- slices.ContainsFunc[[]int,int][[]int,int] -/
def c323 : IFn := { np := 2, rs := [.t 4], body :=
 (.seq
  (.ops [⟨some 4, none, .mv (.k (.bool false))⟩])
  (.seq
   (.ops [⟨some 5, none, .mv (.t 0)⟩,
     ⟨some 6, none, .mv (.t 1)⟩,
     ⟨some 7, none, .call 324 [.t 5, .t 6]⟩,
     ⟨some 8, none, .bin .geq (.t 7) (.k (.int .i64 0))⟩,
     ⟨some 4, none, .mv (.t 8)⟩])
   (.keep [4]
    .ret))) }
structure N323 (R : Env) : Prop where
  o323 : R.Fn 323 c323
  n324 : N324 R
end Go.UM

/- The resolved code of package wide, function by function; numbers are those of the register, the same for all programs. -/

namespace Go.UM
open Go.AM
/-- umbra.wide.size -/
def c275 : IFn := { np := 1, rs := [.t 2, .t 3], body :=
 (.seq
  (.ops [⟨some 2, none, .mv (.k (.int .u64 0))⟩,
    ⟨some 3, none, .mv (.k (.bool false))⟩])
  (.seq
   (.seq
    (.ops [⟨some 4, none, .mv (.t 0)⟩,
      ⟨some 5, none, .bin .lss (.t 4) (.k (.int .i64 0))⟩])
    (.cond (.t 5)
     (.seq
      (.ops [⟨some 6, none, .mv (.t 0)⟩,
        ⟨some 7, none, .conv .u64 (.t 6)⟩,
        ⟨some 8, none, .un .neg (.t 7)⟩,
        ⟨some 2, none, .mv (.t 8)⟩,
        ⟨some 3, none, .mv (.k (.bool true))⟩])
      (.keep [2, 3]
       .ret))
     .skip))
   (.keep [0]
    (.seq
     (.ops [⟨some 9, none, .mv (.t 0)⟩,
       ⟨some 10, none, .conv .u64 (.t 9)⟩,
       ⟨some 2, none, .mv (.t 10)⟩,
       ⟨some 3, none, .mv (.k (.bool false))⟩])
     .ret)))) }
structure N275 (R : Env) : Prop where
  o275 : R.Fn 275 c275
/-- umbra.wide.turned -/
def c283 : IFn := { np := 2, rs := [.t 4, .t 5], body :=
 (.seq
  (.ops [⟨some 4, none, .mv (.k (.int .u64 0))⟩,
    ⟨some 5, none, .mv (.k (.int .u64 0))⟩])
  (.seq
   (.ops [⟨some 8, none, .mv (.t 1)⟩,
     ⟨some 9, none, .callx 286 [.k (.int .u64 0), .t 8, .k (.int .u64 0)]⟩,
     ⟨some 7, none, .mv (.t 9)⟩,
     ⟨some 10, none, .ext (.t 7) 0⟩,
     ⟨some 11, none, .ext (.t 7) 1⟩,
     ⟨some 1, none, .mv (.t 10)⟩,
     ⟨some 6, none, .mv (.t 11)⟩])
   (.keep [0, 1, 6]
    (.seq
     (.ops [⟨some 13, none, .mv (.t 0)⟩,
       ⟨some 14, none, .mv (.t 6)⟩,
       ⟨some 15, none, .callx 286 [.k (.int .u64 0), .t 13, .t 14]⟩,
       ⟨some 12, none, .mv (.t 15)⟩,
       ⟨some 16, none, .ext (.t 12) 0⟩,
       ⟨some 17, none, .ext (.t 12) 1⟩,
       ⟨some 0, none, .mv (.t 16)⟩])
     (.keep [0, 1]
      (.seq
       (.ops [⟨some 18, none, .mv (.t 0)⟩,
         ⟨some 19, none, .mv (.t 1)⟩,
         ⟨some 4, none, .mv (.t 18)⟩,
         ⟨some 5, none, .mv (.t 19)⟩])
       .ret)))))) }
structure N283 (R : Env) : Prop where
  o283 : R.Fn 283 c283
  n286 : N286 R
/-- umbra.wide.signed -/
def c277 : IFn := { np := 3, rs := [.cell 6 true 2, .t 7], body :=
 (.seq
  (.ops [⟨some 6, none, .alloc 38 [.int .i64 0, .int .u64 0]⟩,
    ⟨some 7, none, .mv (.k (.bool false))⟩])
  (.seq
   (.seq
    (.ops [⟨some 9, none, .mv (.t 2)⟩])
    (.cond (.t 9)
     (.ops [⟨some 11, none, .mv (.t 0)⟩,
       ⟨some 12, none, .mv (.t 1)⟩,
       ⟨some 13, none, .call 283 [.t 11, .t 12]⟩,
       ⟨some 10, none, .mv (.t 13)⟩,
       ⟨some 14, none, .ext (.t 10) 0⟩,
       ⟨some 15, none, .ext (.t 10) 1⟩,
       ⟨some 0, none, .mv (.t 14)⟩,
       ⟨some 1, none, .mv (.t 15)⟩])
     .skip))
   (.keep [0, 1, 2, 6]
    (.seq
     (.ops [⟨some 16, none, .mv (.t 0)⟩,
       ⟨some 17, none, .conv .i64 (.t 16)⟩,
       ⟨some 18, none, .mv (.t 1)⟩,
       ⟨some 19, none, .build [.int .i64 0, .int .u64 0] [(0, 1, .t 17), (1, 1, .t 18)]⟩,
       ⟨some 8, none, .alloc 38 [.int .i64 0, .int .u64 0]⟩,
       ⟨none, none, .store 2 (.t 8) (.t 19)⟩])
     (.keep [0, 1, 2, 6, 8]
      (.seq
       (.ops [⟨some 20, none, .load true 2 (.t 8)⟩,
         ⟨some 21, none, .fldA 0 (.t 8)⟩,
         ⟨some 22, none, .load false 1 (.t 21)⟩,
         ⟨some 23, none, .bin .lss (.t 22) (.k (.int .i64 0))⟩,
         ⟨some 24, none, .mv (.t 2)⟩,
         ⟨some 25, none, .eqb false (.t 23) (.t 24)⟩,
         ⟨some 26, none, .mv (.t 25)⟩,
         ⟨some 27, some (26, false), .mv (.t 0)⟩,
         ⟨some 28, some (26, false), .mv (.t 1)⟩,
         ⟨some 29, some (26, false), .bin .or (.t 27) (.t 28)⟩,
         ⟨some 30, some (26, false), .bin .eql (.t 29) (.k (.int .u64 0))⟩,
         ⟨some 31, none, .pick (.t 26) (.k (.bool true)) (.t 30)⟩,
         ⟨none, none, .store 2 (.t 6) (.t 20)⟩,
         ⟨some 7, none, .mv (.t 31)⟩])
       (.keep [6, 7]
        .ret))))))) }
structure N277 (R : Env) : Prop where
  o277 : R.Fn 277 c277
  n283 : N283 R
/-- umbra.wide.Mul -/
def c264 : IFn := { np := 2, rs := [.cell 4 true 2], body :=
 (.seq
  (.ops [⟨some 4, none, .alloc 38 [.int .i64 0, .int .u64 0]⟩])
  (.seq
   (.ops [⟨some 14, none, .mv (.t 0)⟩,
     ⟨some 15, none, .call 275 [.t 14]⟩,
     ⟨some 13, none, .mv (.t 15)⟩,
     ⟨some 16, none, .ext (.t 13) 0⟩,
     ⟨some 17, none, .ext (.t 13) 1⟩,
     ⟨some 5, none, .mv (.t 16)⟩,
     ⟨some 6, none, .mv (.t 17)⟩])
   (.keep [1, 4, 5, 6]
    (.seq
     (.ops [⟨some 19, none, .mv (.t 1)⟩,
       ⟨some 20, none, .call 275 [.t 19]⟩,
       ⟨some 18, none, .mv (.t 20)⟩,
       ⟨some 21, none, .ext (.t 18) 0⟩,
       ⟨some 22, none, .ext (.t 18) 1⟩,
       ⟨some 7, none, .mv (.t 21)⟩,
       ⟨some 8, none, .mv (.t 22)⟩])
     (.keep [4, 5, 6, 7, 8]
      (.seq
       (.ops [⟨some 24, none, .mv (.t 5)⟩,
         ⟨some 25, none, .mv (.t 7)⟩,
         ⟨some 26, none, .call 276 [.t 24, .t 25]⟩,
         ⟨some 23, none, .mv (.t 26)⟩,
         ⟨some 27, none, .ext (.t 23) 0⟩,
         ⟨some 28, none, .ext (.t 23) 1⟩,
         ⟨some 9, none, .mv (.t 27)⟩,
         ⟨some 10, none, .mv (.t 28)⟩])
       (.keep [4, 6, 8, 9, 10]
        (.seq
         (.ops [⟨some 30, none, .mv (.t 9)⟩,
           ⟨some 31, none, .mv (.t 10)⟩,
           ⟨some 32, none, .mv (.t 6)⟩,
           ⟨some 33, none, .mv (.t 8)⟩,
           ⟨some 34, none, .eqb true (.t 32) (.t 33)⟩,
           ⟨some 35, none, .call 277 [.t 30, .t 31, .t 34]⟩,
           ⟨some 29, none, .mv (.t 35)⟩,
           ⟨some 36, none, .ext (.t 29) 0⟩,
           ⟨some 37, none, .ext (.t 29) 1⟩,
           ⟨some 11, none, .alloc 38 [.int .i64 0, .int .u64 0]⟩,
           ⟨none, none, .store 2 (.t 11) (.t 36)⟩,
           ⟨some 12, none, .mv (.t 37)⟩])
         (.keep [4, 11]
          (.seq
           (.ops [⟨some 38, none, .load true 2 (.t 11)⟩,
             ⟨none, none, .store 2 (.t 4) (.t 38)⟩])
           .ret)))))))))) }
structure N264 (R : Env) : Prop where
  o264 : R.Fn 264 c264
  n275 : N275 R
  n276 : N276 R
  n277 : N277 R
/-- umbra.wide.Int -/
def c274 : IFn := { np := 1, rs := [.t 2, .t 3], body :=
 (.seq
  (.ops [⟨some 1, none, .box 38 (.t 0)⟩,
    ⟨some 2, none, .mv (.k (.int .i64 0))⟩,
    ⟨some 3, none, .mv (.k (.bool false))⟩])
  (.seq
   (.seq
    (.ops [⟨some 4, none, .fldA 1 (.t 1)⟩,
      ⟨some 5, none, .load false 1 (.t 4)⟩,
      ⟨some 6, none, .conv .i64 (.t 5)⟩,
      ⟨some 2, none, .mv (.t 6)⟩])
    (.seq
     (.ops [⟨some 7, none, .fldA 0 (.t 1)⟩,
       ⟨some 8, none, .load false 1 (.t 7)⟩,
       ⟨some 9, none, .mv (.t 2)⟩,
       ⟨some 10, none, .bin .shr (.t 9) (.k (.int .u64 63))⟩,
       ⟨some 11, none, .bin .neq (.t 8) (.t 10)⟩])
     (.keep [2, 11]
      (.cond (.t 11)
       (.seq
        (.ops [⟨some 2, none, .mv (.k (.int .i64 0))⟩,
          ⟨some 3, none, .mv (.k (.bool false))⟩])
        .ret)
       .skip))))
   (.keep [2]
    (.seq
     (.ops [⟨some 12, none, .mv (.t 2)⟩,
       ⟨some 2, none, .mv (.t 12)⟩,
       ⟨some 3, none, .mv (.k (.bool true))⟩])
     .ret)))) }
structure N274 (R : Env) : Prop where
  o274 : R.Fn 274 c274
/-- umbra.wide.Of -/
def c287 : IFn := { np := 1, rs := [.cell 2 true 2], body :=
 (.seq
  (.ops [⟨some 2, none, .alloc 38 [.int .i64 0, .int .u64 0]⟩])
  (.seq
   (.ops [⟨some 3, none, .mv (.t 0)⟩,
     ⟨some 4, none, .bin .shr (.t 3) (.k (.int .u64 63))⟩,
     ⟨some 5, none, .mv (.t 0)⟩,
     ⟨some 6, none, .conv .u64 (.t 5)⟩,
     ⟨some 7, none, .build [.int .i64 0, .int .u64 0] [(0, 1, .t 4), (1, 1, .t 6)]⟩,
     ⟨none, none, .store 2 (.t 2) (.t 7)⟩])
   (.keep [2]
    .ret))) }
structure N287 (R : Env) : Prop where
  o287 : R.Fn 287 c287
/-- umbra.wide.Shr -/
def c285 : IFn := { np := 2, rs := [.cell 4 true 2], body :=
 (.seq
  (.ops [⟨some 2, none, .box 38 (.t 0)⟩,
    ⟨some 4, none, .alloc 38 [.int .i64 0, .int .u64 0]⟩])
  (.seq
   (.ops [⟨some 5, none, .mv (.t 1)⟩,
     ⟨some 6, none, .mm true [.t 5, .k (.int .i64 0)]⟩,
     ⟨some 1, none, .mv (.t 6)⟩])
   (.seq
    (.seq
     (.ops [⟨some 7, none, .mv (.t 1)⟩,
       ⟨some 8, none, .bin .geq (.t 7) (.k (.int .i64 64))⟩])
     (.cond (.t 8)
      (.seq
       (.ops [⟨some 9, none, .fldA 0 (.t 2)⟩,
         ⟨some 10, none, .load false 1 (.t 9)⟩,
         ⟨some 11, none, .mv (.t 1)⟩,
         ⟨some 12, none, .bin .sub (.t 11) (.k (.int .i64 64))⟩,
         ⟨some 13, none, .mm false [.t 12, .k (.int .i64 63)]⟩,
         ⟨some 14, none, .bin .shr (.t 10) (.t 13)⟩,
         ⟨some 15, none, .call 287 [.t 14]⟩,
         ⟨none, none, .store 2 (.t 4) (.t 15)⟩])
       (.keep [4]
        .ret))
      .skip))
    (.keep [1, 2, 4]
     (.seq
      (.seq
       (.ops [⟨some 16, none, .mv (.t 1)⟩,
         ⟨some 17, none, .bin .eql (.t 16) (.k (.int .i64 0))⟩])
       (.cond (.t 17)
        (.seq
         (.ops [⟨some 18, none, .load true 2 (.t 2)⟩,
           ⟨none, none, .store 2 (.t 4) (.t 18)⟩])
         .ret)
        .skip))
      (.keep [1, 2, 4]
       (.seq
        (.draw [0, 1, 0, 7, 0, 16, 0, 112, 0, 256, 768, 0, 2048, 7936, 16368, 32767, 65535] [[2], [19], [1], [20, 21], [2], [23], [1], [24, 25], [2], [27], [28], [1], [30], [29, 31], [26, 32], [22, 33], [4, 34]] [⟨some 19, none, .fldA 0 (.t 2)⟩,
          ⟨some 20, none, .load false 1 (.t 19)⟩,
          ⟨some 21, none, .mv (.t 1)⟩,
          ⟨some 22, none, .bin .shr (.t 20) (.t 21)⟩,
          ⟨some 23, none, .fldA 1 (.t 2)⟩,
          ⟨some 24, none, .load false 1 (.t 23)⟩,
          ⟨some 25, none, .mv (.t 1)⟩,
          ⟨some 26, none, .bin .shr (.t 24) (.t 25)⟩,
          ⟨some 27, none, .fldA 0 (.t 2)⟩,
          ⟨some 28, none, .load false 1 (.t 27)⟩,
          ⟨some 29, none, .conv .u64 (.t 28)⟩,
          ⟨some 30, none, .mv (.t 1)⟩,
          ⟨some 31, none, .bin .sub (.k (.int .i64 64)) (.t 30)⟩,
          ⟨some 32, none, .bin .shl (.t 29) (.t 31)⟩,
          ⟨some 33, none, .bin .or (.t 26) (.t 32)⟩,
          ⟨some 34, none, .build [.int .i64 0, .int .u64 0] [(0, 1, .t 22), (1, 1, .t 33)]⟩,
          ⟨none, none, .store 2 (.t 4) (.t 34)⟩])
        (.keep [4]
         .ret)))))))) }
structure N285 (R : Env) : Prop where
  o285 : R.Fn 285 c285
  n287 : N287 R
end Go.UM

/- The resolved code of package fix, function by function; numbers are those of the register, the same for all programs. -/

namespace Go.UM
open Go.AM
/-- umbra.fix.near -/
def c265 : IFn := { np := 1, rs := [.t 2], body :=
 (.seq
  (.ops [⟨some 1, none, .box 38 (.t 0)⟩,
    ⟨some 2, none, .mv (.k (.int .i64 0))⟩])
  (.seq
   (.seq
    (.ops [⟨some 6, none, .load true 2 (.t 1)⟩,
      ⟨some 7, none, .call 274 [.t 6]⟩,
      ⟨some 5, none, .mv (.t 7)⟩,
      ⟨some 8, none, .ext (.t 5) 0⟩,
      ⟨some 9, none, .ext (.t 5) 1⟩,
      ⟨some 3, none, .mv (.t 8)⟩,
      ⟨some 4, none, .mv (.t 9)⟩])
    (.keep [1, 3, 4]
     (.seq
      (.ops [⟨some 10, none, .mv (.t 4)⟩])
      (.cond (.t 10)
       (.seq
        (.ops [⟨some 11, none, .mv (.t 3)⟩,
          ⟨some 2, none, .mv (.t 11)⟩])
        .ret)
       .skip))))
   (.keep [1]
    (.seq
     (.seq
      (.ops [⟨some 12, none, .fldA 0 (.t 1)⟩,
        ⟨some 13, none, .load false 1 (.t 12)⟩,
        ⟨some 14, none, .bin .lss (.t 13) (.k (.int .i64 0))⟩])
      (.cond (.t 14)
       (.seq
        (.ops [⟨some 2, none, .mv (.k (.int .i64 (-9223372036854775808)))⟩])
        .ret)
       .skip))
     (.keep []
      (.seq
       (.ops [⟨some 2, none, .mv (.k (.int .i64 9223372036854775807))⟩])
       .ret)))))) }
structure N265 (R : Env) : Prop where
  o265 : R.Fn 265 c265
  n274 : N274 R
/-- umbra.fix.Mul -/
def c284 : IFn := { np := 1, rs := [.t 2], body :=
 (.seq
  (.ops [⟨some 2, none, .mv (.k (.int .i64 0))⟩])
  (.seq
   (.ops [⟨some 3, none, .mv (.k (.int .i64 4294967296))⟩])
   (.seq
    (.seq
     (.ops [⟨some 6, none, .mv (.t 0)⟩,
       ⟨some 7, none, .lenS (.t 6)⟩,
       ⟨some 8, none, .mv (.k (.int .i64 0))⟩])
     (.keep [3, 6, 7, 8]
      (.block 0
       (.loop
        (.seq
         (.ops [⟨some 9, none, .bin .lss (.t 8) (.t 7)⟩])
         (.seq
          (.cond (.t 9)
           .skip
           (.exit 0))
          (.keep [3, 6, 7, 8]
           (.seq
            (.block 1
             (.seq
              (.ops [⟨some 10, none, .mv (.t 8)⟩,
                ⟨some 11, none, .idxS 1 (.t 6) (.t 8)⟩,
                ⟨some 12, none, .load false 1 (.t 11)⟩,
                ⟨some 4, none, .mv (.t 10)⟩,
                ⟨some 5, none, .mv (.t 12)⟩])
              (.keep [3, 4, 5, 6, 7, 8]
               (.seq
                (.seq
                 (.ops [⟨some 13, none, .mv (.t 4)⟩,
                   ⟨some 14, none, .bin .eql (.t 13) (.k (.int .i64 0))⟩])
                 (.cond (.t 14)
                  (.seq
                   (.ops [⟨some 15, none, .mv (.t 5)⟩,
                     ⟨some 3, none, .mv (.t 15)⟩])
                   (.exit 1))
                  .skip))
                (.keep [3, 5, 6, 7, 8]
                 (.ops [⟨some 16, none, .mv (.t 3)⟩,
                   ⟨some 17, none, .mv (.t 5)⟩,
                   ⟨some 18, none, .call 264 [.t 16, .t 17]⟩,
                   ⟨some 19, none, .call 285 [.t 18, .k (.int .i64 32)]⟩,
                   ⟨some 20, none, .call 265 [.t 19]⟩,
                   ⟨some 3, none, .mv (.t 20)⟩]))))))
            (.keep [3, 6, 7, 8]
             (.ops [⟨some 21, none, .bin .add (.t 8) (.k (.int .i64 1))⟩,
               ⟨some 8, none, .mv (.t 21)⟩]))))))))))
    (.keep [3]
     (.seq
      (.ops [⟨some 22, none, .mv (.t 3)⟩,
        ⟨some 2, none, .mv (.t 22)⟩])
      .ret))))) }
structure N284 (R : Env) : Prop where
  o284 : R.Fn 284 c284
  n264 : N264 R
  n265 : N265 R
  n285 : N285 R
/-- umbra.fix.Add -/
def c267 : IFn := { np := 1, rs := [.t 2], body :=
 (.seq
  (.ops [⟨some 2, none, .mv (.k (.int .i64 0))⟩])
  (.seq
   (.ops [⟨some 3, none, .mv (.k (.int .i64 0))⟩])
   (.seq
    (.seq
     (.ops [⟨some 7, none, .mv (.t 0)⟩,
       ⟨some 8, none, .lenS (.t 7)⟩,
       ⟨some 9, none, .mv (.k (.int .i64 0))⟩])
     (.keep [3, 7, 8, 9]
      (.block 0
       (.loop
        (.seq
         (.ops [⟨some 10, none, .bin .lss (.t 9) (.t 8)⟩])
         (.seq
          (.cond (.t 10)
           .skip
           (.exit 0))
          (.keep [3, 7, 8, 9]
           (.seq
            (.block 1
             (.seq
              (.ops [⟨some 11, none, .idxS 1 (.t 7) (.t 9)⟩,
                ⟨some 12, none, .load false 1 (.t 11)⟩,
                ⟨some 5, none, .mv (.t 12)⟩])
              (.seq
               (.ops [⟨some 13, none, .mv (.t 3)⟩,
                 ⟨some 14, none, .mv (.t 5)⟩,
                 ⟨some 15, none, .bin .add (.t 13) (.t 14)⟩,
                 ⟨some 6, none, .mv (.t 15)⟩])
               (.seq
                (.block 2
                 (.seq
                  (.ops [⟨some 17, none, .mv (.t 3)⟩,
                    ⟨some 18, none, .bin .gtr (.t 17) (.k (.int .i64 0))⟩,
                    ⟨some 19, none, .mv (.t 18)⟩,
                    ⟨some 20, some (19, true), .mv (.t 5)⟩,
                    ⟨some 21, some (19, true), .bin .gtr (.t 20) (.k (.int .i64 0))⟩,
                    ⟨some 22, none, .pick (.t 19) (.t 21) (.k (.bool false))⟩,
                    ⟨some 23, none, .mv (.t 22)⟩,
                    ⟨some 24, some (23, true), .mv (.t 6)⟩,
                    ⟨some 25, some (23, true), .bin .lss (.t 24) (.k (.int .i64 0))⟩,
                    ⟨some 26, none, .pick (.t 23) (.t 25) (.k (.bool false))⟩,
                    ⟨some 16, none, .mv (.t 26)⟩])
                  (.keep [3, 5, 6, 7, 8, 9, 16]
                   (.cond (.t 16)
                    (.ops [⟨some 6, none, .mv (.k (.int .i64 9223372036854775807))⟩])
                    (.seq
                     (.ops [⟨some 28, none, .mv (.t 3)⟩,
                       ⟨some 29, none, .bin .lss (.t 28) (.k (.int .i64 0))⟩,
                       ⟨some 30, none, .mv (.t 29)⟩,
                       ⟨some 31, some (30, true), .mv (.t 5)⟩,
                       ⟨some 32, some (30, true), .bin .lss (.t 31) (.k (.int .i64 0))⟩,
                       ⟨some 33, none, .pick (.t 30) (.t 32) (.k (.bool false))⟩,
                       ⟨some 34, none, .mv (.t 33)⟩,
                       ⟨some 35, some (34, true), .mv (.t 6)⟩,
                       ⟨some 36, some (34, true), .bin .geq (.t 35) (.k (.int .i64 0))⟩,
                       ⟨some 37, none, .pick (.t 34) (.t 36) (.k (.bool false))⟩,
                       ⟨some 27, none, .mv (.t 37)⟩])
                     (.keep [6, 7, 8, 9, 27]
                      (.cond (.t 27)
                       (.ops [⟨some 6, none, .mv (.k (.int .i64 (-9223372036854775808)))⟩])
                       .skip)))))))
                (.keep [6, 7, 8, 9]
                 (.ops [⟨some 38, none, .mv (.t 6)⟩,
                   ⟨some 3, none, .mv (.t 38)⟩]))))))
            (.keep [3, 7, 8, 9]
             (.ops [⟨some 39, none, .bin .add (.t 9) (.k (.int .i64 1))⟩,
               ⟨some 9, none, .mv (.t 39)⟩]))))))))))
    (.keep [3]
     (.seq
      (.ops [⟨some 40, none, .mv (.t 3)⟩,
        ⟨some 2, none, .mv (.t 40)⟩])
      .ret))))) }
structure N267 (R : Env) : Prop where
  o267 : R.Fn 267 c267
/-- umbra.fix.Sub -/
def c281 : IFn := { np := 2, rs := [.t 4], body :=
 (.seq
  (.ops [⟨some 4, none, .mv (.k (.int .i64 0))⟩])
  (.seq
   (.ops [⟨some 6, none, .mv (.t 0)⟩,
     ⟨some 7, none, .mv (.t 1)⟩,
     ⟨some 8, none, .bin .sub (.t 6) (.t 7)⟩,
     ⟨some 5, none, .mv (.t 8)⟩])
   (.seq
    (.block 0
     (.seq
      (.ops [⟨some 10, none, .mv (.t 0)⟩,
        ⟨some 11, none, .bin .geq (.t 10) (.k (.int .i64 0))⟩,
        ⟨some 12, none, .mv (.t 11)⟩,
        ⟨some 13, some (12, true), .mv (.t 1)⟩,
        ⟨some 14, some (12, true), .bin .lss (.t 13) (.k (.int .i64 0))⟩,
        ⟨some 15, none, .pick (.t 12) (.t 14) (.k (.bool false))⟩,
        ⟨some 16, none, .mv (.t 15)⟩,
        ⟨some 17, some (16, true), .mv (.t 5)⟩,
        ⟨some 18, some (16, true), .bin .lss (.t 17) (.k (.int .i64 0))⟩,
        ⟨some 19, none, .pick (.t 16) (.t 18) (.k (.bool false))⟩,
        ⟨some 9, none, .mv (.t 19)⟩])
      (.keep [0, 1, 5, 9]
       (.cond (.t 9)
        (.seq
         (.ops [⟨some 4, none, .mv (.k (.int .i64 9223372036854775807))⟩])
         .ret)
        (.seq
         (.ops [⟨some 21, none, .mv (.t 0)⟩,
           ⟨some 22, none, .bin .lss (.t 21) (.k (.int .i64 0))⟩,
           ⟨some 23, none, .mv (.t 22)⟩,
           ⟨some 24, some (23, true), .mv (.t 1)⟩,
           ⟨some 25, some (23, true), .bin .gtr (.t 24) (.k (.int .i64 0))⟩,
           ⟨some 26, none, .pick (.t 23) (.t 25) (.k (.bool false))⟩,
           ⟨some 27, none, .mv (.t 26)⟩,
           ⟨some 28, some (27, true), .mv (.t 5)⟩,
           ⟨some 29, some (27, true), .bin .geq (.t 28) (.k (.int .i64 0))⟩,
           ⟨some 30, none, .pick (.t 27) (.t 29) (.k (.bool false))⟩,
           ⟨some 20, none, .mv (.t 30)⟩])
         (.keep [5, 20]
          (.cond (.t 20)
           (.seq
            (.ops [⟨some 4, none, .mv (.k (.int .i64 (-9223372036854775808)))⟩])
            .ret)
           .skip)))))))
    (.keep [5]
     (.seq
      (.ops [⟨some 31, none, .mv (.t 5)⟩,
        ⟨some 4, none, .mv (.t 31)⟩])
      .ret))))) }
structure N281 (R : Env) : Prop where
  o281 : R.Fn 281 c281
/-- umbra.fix.Neg -/
def c270 : IFn := { np := 1, rs := [.t 2], body :=
 (.seq
  (.ops [⟨some 2, none, .mv (.k (.int .i64 0))⟩])
  (.seq
   (.ops [⟨some 3, none, .mv (.t 0)⟩,
     ⟨some 4, none, .call 281 [.k (.int .i64 0), .t 3]⟩,
     ⟨some 2, none, .mv (.t 4)⟩])
   .ret)) }
structure N270 (R : Env) : Prop where
  o270 : R.Fn 270 c270
  n281 : N281 R
/-- umbra.fix.Abs -/
def c255 : IFn := { np := 1, rs := [.t 2], body :=
 (.seq
  (.ops [⟨some 2, none, .mv (.k (.int .i64 0))⟩])
  (.seq
   (.ops [⟨some 3, none, .mv (.t 0)⟩,
     ⟨some 4, none, .mv (.t 0)⟩,
     ⟨some 5, none, .call 270 [.t 4]⟩,
     ⟨some 6, none, .mm true [.t 3, .t 5]⟩,
     ⟨some 2, none, .mv (.t 6)⟩])
   (.keep [2]
    .ret))) }
structure N255 (R : Env) : Prop where
  o255 : R.Fn 255 c255
  n270 : N270 R
/-- umbra.fix.Round -/
def c260 : IFn := { np := 1, rs := [.t 2], body :=
 (.seq
  (.ops [⟨some 2, none, .mv (.k (.int .i64 0))⟩])
  (.seq
   (.ops [⟨some 3, none, .mv (.t 0)⟩,
     ⟨some 4, none, .bin .shr (.t 3) (.k (.int .u64 32))⟩,
     ⟨some 5, none, .mv (.t 0)⟩,
     ⟨some 6, none, .bin .shr (.t 5) (.k (.int .u64 31))⟩,
     ⟨some 7, none, .bin .and (.t 6) (.k (.int .i64 1))⟩,
     ⟨some 8, none, .bin .add (.t 4) (.t 7)⟩,
     ⟨some 2, none, .mv (.t 8)⟩])
   (.keep [2]
    .ret))) }
structure N260 (R : Env) : Prop where
  o260 : R.Fn 260 c260
/-- umbra.fix.Of -/
def c248 : IFn := { np := 1, rs := [.t 2], body :=
 (.seq
  (.ops [⟨some 2, none, .mv (.k (.int .i64 0))⟩])
  (.seq
   (.ops [⟨some 3, none, .mv (.t 0)⟩,
     ⟨some 4, none, .call 264 [.t 3, .k (.int .i64 4294967296)]⟩,
     ⟨some 5, none, .call 265 [.t 4]⟩,
     ⟨some 2, none, .mv (.t 5)⟩])
   .ret)) }
structure N248 (R : Env) : Prop where
  o248 : R.Fn 248 c248
  n264 : N264 R
  n265 : N265 R
end Go.UM

/- The resolved code of package vec, function by function; numbers are those of the register, the same for all programs. -/

namespace Go.UM
open Go.AM
/-- umbra.vec.each -/
def c262 : IFn := { np := 3, rs := [.cell 6 true 3], body :=
 (.seq
  (.ops [⟨some 3, none, .box 31 (.t 0)⟩,
    ⟨some 4, none, .box 31 (.t 1)⟩,
    ⟨some 6, none, .alloc 31 [.int .i64 0, .int .i64 0, .int .i64 0]⟩])
  (.seq
   (.draw [0, 0, 2, 0, 8, 31, 0, 0, 128, 0, 512, 2047, 0, 0, 8192, 0, 32768, 131071, 262143, 524287] [[2], [3], [8], [4], [10], [7, 9, 11], [2], [3], [14], [4], [16], [13, 15, 17], [2], [3], [20], [4], [22], [19, 21, 23], [12, 18, 24], [6, 25]] [⟨some 7, none, .mv (.t 2)⟩,
     ⟨some 8, none, .fldA 0 (.t 3)⟩,
     ⟨some 9, none, .load false 1 (.t 8)⟩,
     ⟨some 10, none, .fldA 0 (.t 4)⟩,
     ⟨some 11, none, .load false 1 (.t 10)⟩,
     ⟨some 12, none, .callv (.t 7) [.t 9, .t 11]⟩,
     ⟨some 13, none, .mv (.t 2)⟩,
     ⟨some 14, none, .fldA 1 (.t 3)⟩,
     ⟨some 15, none, .load false 1 (.t 14)⟩,
     ⟨some 16, none, .fldA 1 (.t 4)⟩,
     ⟨some 17, none, .load false 1 (.t 16)⟩,
     ⟨some 18, none, .callv (.t 13) [.t 15, .t 17]⟩,
     ⟨some 19, none, .mv (.t 2)⟩,
     ⟨some 20, none, .fldA 2 (.t 3)⟩,
     ⟨some 21, none, .load false 1 (.t 20)⟩,
     ⟨some 22, none, .fldA 2 (.t 4)⟩,
     ⟨some 23, none, .load false 1 (.t 22)⟩,
     ⟨some 24, none, .callv (.t 19) [.t 21, .t 23]⟩,
     ⟨some 25, none, .build [.int .i64 0, .int .i64 0, .int .i64 0] [(0, 1, .t 12), (1, 1, .t 18), (2, 1, .t 24)]⟩,
     ⟨none, none, .store 3 (.t 6) (.t 25)⟩])
   (.keep [6]
    .ret))) }
structure N262 (R : Env) : Prop where
  o262 : R.Fn 262 c262
/-- umbra.vec.Times$1 -/
def c278 : IFn := { np := 2, rs := [.t 4], body :=
 (.seq
  (.ops [⟨some 4, none, .mv (.k (.int .i64 0))⟩])
  (.seq
   (.ops [⟨some 5, none, .mv (.t 0)⟩,
     ⟨some 6, none, .mv (.t 1)⟩,
     ⟨some 7, none, .bslice 32 1 2 [.int .i64 0] [(0, .t 5), (1, .t 6)]⟩,
     ⟨some 8, none, .call 284 [.t 7]⟩,
     ⟨some 4, none, .mv (.t 8)⟩])
   (.keep [4]
    .ret))) }
structure N278 (R : Env) : Prop where
  o278 : R.Fn 278 c278
  n284 : N284 R
/-- umbra.vec.Times -/
def c266 : IFn := { np := 1, rs := [.cell 2 true 3], body :=
 (.seq
  (.ops [⟨some 2, none, .alloc 31 [.int .i64 0, .int .i64 0, .int .i64 0]⟩])
  (.seq
   (.ops [⟨some 6, none, .build [.int .i64 0, .int .i64 0, .int .i64 0] [(0, 1, .k (.int .i64 4294967296)), (1, 1, .k (.int .i64 4294967296)), (2, 1, .k (.int .i64 4294967296))]⟩,
     ⟨some 3, none, .alloc 31 [.int .i64 0, .int .i64 0, .int .i64 0]⟩,
     ⟨none, none, .store 3 (.t 3) (.t 6)⟩])
   (.seq
    (.seq
     (.ops [⟨some 7, none, .mv (.t 0)⟩,
       ⟨some 8, none, .lenS (.t 7)⟩,
       ⟨some 9, none, .mv (.k (.int .i64 0))⟩])
     (.keep [2, 3, 7, 8, 9]
      (.block 0
       (.loop
        (.seq
         (.ops [⟨some 10, none, .bin .lss (.t 9) (.t 8)⟩])
         (.seq
          (.cond (.t 10)
           .skip
           (.exit 0))
          (.keep [2, 3, 7, 8, 9]
           (.seq
            (.block 1
             (.seq
              (.ops [⟨some 11, none, .idxS 3 (.t 7) (.t 9)⟩,
                ⟨some 12, none, .load true 3 (.t 11)⟩,
                ⟨some 5, none, .alloc 31 [.int .i64 0, .int .i64 0, .int .i64 0]⟩,
                ⟨none, none, .store 3 (.t 5) (.t 12)⟩])
              (.ops [⟨some 13, none, .load true 3 (.t 3)⟩,
                ⟨some 14, none, .load true 3 (.t 5)⟩,
                ⟨some 15, none, .call 262 [.t 13, .t 14, .f 278]⟩,
                ⟨none, none, .store 3 (.t 3) (.t 15)⟩])))
            (.keep [2, 3, 7, 8, 9]
             (.ops [⟨some 16, none, .bin .add (.t 9) (.k (.int .i64 1))⟩,
               ⟨some 9, none, .mv (.t 16)⟩]))))))))))
    (.keep [2, 3]
     (.seq
      (.ops [⟨some 17, none, .load true 3 (.t 3)⟩,
        ⟨none, none, .store 3 (.t 2) (.t 17)⟩])
      .ret))))) }
structure N266 (R : Env) : Prop where
  o266 : R.Fn 266 c266
  n262 : N262 R
  n278 : N278 R
/-- umbra.vec.Dot -/
def c252 : IFn := { np := 2, rs := [.t 4], body :=
 (.seq
  (.ops [⟨some 2, none, .box 31 (.t 0)⟩,
    ⟨some 3, none, .box 31 (.t 1)⟩,
    ⟨some 4, none, .mv (.k (.int .i64 0))⟩])
  (.seq
   (.ops [⟨some 6, none, .load true 3 (.t 2)⟩,
     ⟨some 7, none, .load true 3 (.t 3)⟩,
     ⟨some 8, none, .bslice 31 3 2 [.int .i64 0, .int .i64 0, .int .i64 0] [(0, .t 6), (1, .t 7)]⟩,
     ⟨some 9, none, .call 266 [.t 8]⟩,
     ⟨some 5, none, .alloc 31 [.int .i64 0, .int .i64 0, .int .i64 0]⟩,
     ⟨none, none, .store 3 (.t 5) (.t 9)⟩])
   (.keep [5]
    (.seq
     (.ops [⟨some 10, none, .fldA 0 (.t 5)⟩,
       ⟨some 11, none, .load false 1 (.t 10)⟩,
       ⟨some 12, none, .fldA 1 (.t 5)⟩,
       ⟨some 13, none, .load false 1 (.t 12)⟩,
       ⟨some 14, none, .fldA 2 (.t 5)⟩,
       ⟨some 15, none, .load false 1 (.t 14)⟩,
       ⟨some 16, none, .bslice 32 1 3 [.int .i64 0] [(0, .t 11), (1, .t 13), (2, .t 15)]⟩,
       ⟨some 17, none, .call 267 [.t 16]⟩,
       ⟨some 4, none, .mv (.t 17)⟩])
     (.keep [4]
      .ret))))) }
structure N252 (R : Env) : Prop where
  o252 : R.Fn 252 c252
  n266 : N266 R
  n267 : N267 R
/-- umbra.vec.Add$1 -/
def c263 : IFn := { np := 2, rs := [.t 4], body :=
 (.seq
  (.ops [⟨some 4, none, .mv (.k (.int .i64 0))⟩])
  (.seq
   (.ops [⟨some 5, none, .mv (.t 0)⟩,
     ⟨some 6, none, .mv (.t 1)⟩,
     ⟨some 7, none, .bslice 32 1 2 [.int .i64 0] [(0, .t 5), (1, .t 6)]⟩,
     ⟨some 8, none, .call 267 [.t 7]⟩,
     ⟨some 4, none, .mv (.t 8)⟩])
   (.keep [4]
    .ret))) }
structure N263 (R : Env) : Prop where
  o263 : R.Fn 263 c263
  n267 : N267 R
/-- umbra.vec.Add -/
def c246 : IFn := { np := 1, rs := [.cell 2 true 3], body :=
 (.seq
  (.ops [⟨some 2, none, .alloc 31 [.int .i64 0, .int .i64 0, .int .i64 0]⟩])
  (.seq
   (.ops [⟨some 3, none, .alloc 31 [.int .i64 0, .int .i64 0, .int .i64 0]⟩])
   (.seq
    (.seq
     (.ops [⟨some 6, none, .mv (.t 0)⟩,
       ⟨some 7, none, .lenS (.t 6)⟩,
       ⟨some 8, none, .mv (.k (.int .i64 0))⟩])
     (.keep [2, 3, 6, 7, 8]
      (.block 0
       (.loop
        (.seq
         (.ops [⟨some 9, none, .bin .lss (.t 8) (.t 7)⟩])
         (.seq
          (.cond (.t 9)
           .skip
           (.exit 0))
          (.keep [2, 3, 6, 7, 8]
           (.seq
            (.block 1
             (.seq
              (.ops [⟨some 10, none, .idxS 3 (.t 6) (.t 8)⟩,
                ⟨some 11, none, .load true 3 (.t 10)⟩,
                ⟨some 5, none, .alloc 31 [.int .i64 0, .int .i64 0, .int .i64 0]⟩,
                ⟨none, none, .store 3 (.t 5) (.t 11)⟩])
              (.ops [⟨some 12, none, .load true 3 (.t 3)⟩,
                ⟨some 13, none, .load true 3 (.t 5)⟩,
                ⟨some 14, none, .call 262 [.t 12, .t 13, .f 263]⟩,
                ⟨none, none, .store 3 (.t 3) (.t 14)⟩])))
            (.keep [2, 3, 6, 7, 8]
             (.ops [⟨some 15, none, .bin .add (.t 8) (.k (.int .i64 1))⟩,
               ⟨some 8, none, .mv (.t 15)⟩]))))))))))
    (.keep [2, 3]
     (.seq
      (.ops [⟨some 16, none, .load true 3 (.t 3)⟩,
        ⟨none, none, .store 3 (.t 2) (.t 16)⟩])
      .ret))))) }
structure N246 (R : Env) : Prop where
  o246 : R.Fn 246 c246
  n262 : N262 R
  n263 : N263 R
/-- umbra.vec.Most -/
def c256 : IFn := { np := 1, rs := [.t 2], body :=
 (.seq
  (.ops [⟨some 1, none, .box 31 (.t 0)⟩,
    ⟨some 2, none, .mv (.k (.int .i64 0))⟩])
  (.seq
   (.draw [0, 1, 3, 0, 8, 31, 0, 64, 255, 511, 1023] [[1], [3], [4], [1], [6], [7], [1], [9], [10], [5, 8, 11], [12]] [⟨some 3, none, .fldA 0 (.t 1)⟩,
     ⟨some 4, none, .load false 1 (.t 3)⟩,
     ⟨some 5, none, .call 255 [.t 4]⟩,
     ⟨some 6, none, .fldA 1 (.t 1)⟩,
     ⟨some 7, none, .load false 1 (.t 6)⟩,
     ⟨some 8, none, .call 255 [.t 7]⟩,
     ⟨some 9, none, .fldA 2 (.t 1)⟩,
     ⟨some 10, none, .load false 1 (.t 9)⟩,
     ⟨some 11, none, .call 255 [.t 10]⟩,
     ⟨some 12, none, .mm true [.t 5, .t 8, .t 11]⟩,
     ⟨some 2, none, .mv (.t 12)⟩])
   (.keep [2]
    .ret))) }
structure N256 (R : Env) : Prop where
  o256 : R.Fn 256 c256
  n255 : N255 R
/-- umbra.vec.Of -/
def c249 : IFn := { np := 1, rs := [.cell 2 true 3], body :=
 (.seq
  (.ops [⟨some 1, none, .box 26 (.t 0)⟩,
    ⟨some 2, none, .alloc 31 [.int .i64 0, .int .i64 0, .int .i64 0]⟩])
  (.seq
   (.draw [0, 1, 3, 0, 8, 31, 0, 64, 255, 511, 1023] [[1], [3], [4], [1], [6], [7], [1], [9], [10], [5, 8, 11], [2, 12]] [⟨some 3, none, .fldA 0 (.t 1)⟩,
     ⟨some 4, none, .load false 1 (.t 3)⟩,
     ⟨some 5, none, .call 248 [.t 4]⟩,
     ⟨some 6, none, .fldA 1 (.t 1)⟩,
     ⟨some 7, none, .load false 1 (.t 6)⟩,
     ⟨some 8, none, .call 248 [.t 7]⟩,
     ⟨some 9, none, .fldA 2 (.t 1)⟩,
     ⟨some 10, none, .load false 1 (.t 9)⟩,
     ⟨some 11, none, .call 248 [.t 10]⟩,
     ⟨some 12, none, .build [.int .i64 0, .int .i64 0, .int .i64 0] [(0, 1, .t 5), (1, 1, .t 8), (2, 1, .t 11)]⟩,
     ⟨none, none, .store 3 (.t 2) (.t 12)⟩])
   (.keep [2]
    .ret))) }
structure N249 (R : Env) : Prop where
  o249 : R.Fn 249 c249
  n248 : N248 R
end Go.UM

/- The resolved code of package affine, function by function; numbers are those of the register, the same for all programs. -/


namespace Go.UM
open Go.AM
/-- umbra.affine.Same -/
def c221 : IFn := { np := 0, rs := [.cell 0 true 12], body :=
 (.seq
  (.ops [⟨some 0, none, .alloc 33 [.int .i64 0, .int .i64 0, .int .i64 0, .int .i64 0, .int .i64 0, .int .i64 0, .int .i64 0, .int .i64 0, .int .i64 0, .int .i64 0, .int .i64 0, .int .i64 0]⟩])
  (.seq
   (.ops [⟨some 1, none, .build [.int .i64 0, .int .i64 0, .int .i64 0, .int .i64 0, .int .i64 0, .int .i64 0, .int .i64 0, .int .i64 0, .int .i64 0] [(0, 1, .k (.int .i64 4294967296)), (4, 1, .k (.int .i64 4294967296)), (8, 1, .k (.int .i64 4294967296))]⟩,
     ⟨some 2, none, .build [.int .i64 0, .int .i64 0, .int .i64 0, .int .i64 0, .int .i64 0, .int .i64 0, .int .i64 0, .int .i64 0, .int .i64 0, .int .i64 0, .int .i64 0, .int .i64 0] [(0, 9, .t 1)]⟩,
     ⟨none, none, .store 12 (.t 0) (.t 2)⟩])
   .ret)) }
structure N221 (R : Env) : Prop where
  o221 : R.Fn 221 c221
/-- umbra.affine.Move -/
def c223 : IFn := { np := 1, rs := [.cell 2 true 12], body :=
 (.seq
  (.ops [⟨some 1, none, .box 31 (.t 0)⟩,
    ⟨some 2, none, .alloc 33 [.int .i64 0, .int .i64 0, .int .i64 0, .int .i64 0, .int .i64 0, .int .i64 0, .int .i64 0, .int .i64 0, .int .i64 0, .int .i64 0, .int .i64 0, .int .i64 0]⟩])
  (.seq
   (.ops [⟨some 4, none, .call 221 []⟩,
     ⟨some 3, none, .alloc 33 [.int .i64 0, .int .i64 0, .int .i64 0, .int .i64 0, .int .i64 0, .int .i64 0, .int .i64 0, .int .i64 0, .int .i64 0, .int .i64 0, .int .i64 0, .int .i64 0]⟩,
     ⟨none, none, .store 12 (.t 3) (.t 4)⟩])
   (.seq
    (.ops [⟨some 5, none, .load true 3 (.t 1)⟩,
      ⟨some 6, none, .fldA 9 (.t 3)⟩,
      ⟨none, none, .store 3 (.t 6) (.t 5)⟩])
    (.seq
     (.ops [⟨some 7, none, .load true 12 (.t 3)⟩,
       ⟨none, none, .store 12 (.t 2) (.t 7)⟩])
     .ret)))) }
structure N223 (R : Env) : Prop where
  o223 : R.Fn 223 c223
  n221 : N221 R
/-- umbra.affine.Size -/
def c225 : IFn := { np := 1, rs := [.cell 2 true 12], body :=
 (.seq
  (.ops [⟨some 2, none, .alloc 33 [.int .i64 0, .int .i64 0, .int .i64 0, .int .i64 0, .int .i64 0, .int .i64 0, .int .i64 0, .int .i64 0, .int .i64 0, .int .i64 0, .int .i64 0, .int .i64 0]⟩])
  (.seq
   (.ops [⟨some 5, none, .call 221 []⟩,
     ⟨some 3, none, .alloc 33 [.int .i64 0, .int .i64 0, .int .i64 0, .int .i64 0, .int .i64 0, .int .i64 0, .int .i64 0, .int .i64 0, .int .i64 0, .int .i64 0, .int .i64 0, .int .i64 0]⟩,
     ⟨none, none, .store 12 (.t 3) (.t 5)⟩])
   (.seq
    (.seq
     (.ops [⟨some 6, none, .mv (.k (.int .i64 0))⟩])
     (.keep [0, 2, 3, 6]
      (.block 0
       (.loop
        (.seq
         (.ops [⟨some 7, none, .bin .lss (.t 6) (.k (.int .i64 3))⟩])
         (.seq
          (.cond (.t 7)
           .skip
           (.exit 0))
          (.keep [0, 2, 3, 6]
           (.seq
            (.block 1
             (.seq
              (.ops [⟨some 8, none, .mv (.t 6)⟩,
                ⟨some 4, none, .mv (.t 8)⟩])
              (.block 2
               (.seq
                (.ops [⟨some 10, none, .mv (.t 0)⟩,
                  ⟨some 11, none, .lenS (.t 10)⟩,
                  ⟨some 12, none, .bin .geq (.t 11) (.k (.int .i64 3))⟩,
                  ⟨some 9, none, .mv (.t 12)⟩])
                (.cond (.t 9)
                 (.ops [⟨some 13, none, .mv (.t 4)⟩,
                   ⟨some 14, none, .bin .mul (.k (.int .i64 4)) (.t 13)⟩,
                   ⟨some 15, none, .mv (.t 0)⟩,
                   ⟨some 16, none, .mv (.t 4)⟩,
                   ⟨some 17, none, .idxS 1 (.t 15) (.t 16)⟩,
                   ⟨some 18, none, .load false 1 (.t 17)⟩,
                   ⟨some 19, none, .fldA 0 (.t 3)⟩,
                   ⟨some 20, none, .idxA 9 1 (.t 19) (.t 14)⟩,
                   ⟨none, none, .store 1 (.t 20) (.t 18)⟩])
                 (.seq
                  (.ops [⟨some 22, none, .mv (.t 0)⟩,
                    ⟨some 23, none, .lenS (.t 22)⟩,
                    ⟨some 24, none, .bin .gtr (.t 23) (.k (.int .i64 0))⟩,
                    ⟨some 21, none, .mv (.t 24)⟩])
                  (.cond (.t 21)
                   (.ops [⟨some 25, none, .mv (.t 4)⟩,
                     ⟨some 26, none, .bin .mul (.k (.int .i64 4)) (.t 25)⟩,
                     ⟨some 27, none, .mv (.t 0)⟩,
                     ⟨some 28, none, .idxS 1 (.t 27) (.k (.int .i64 0))⟩,
                     ⟨some 29, none, .load false 1 (.t 28)⟩,
                     ⟨some 30, none, .fldA 0 (.t 3)⟩,
                     ⟨some 31, none, .idxA 9 1 (.t 30) (.t 26)⟩,
                     ⟨none, none, .store 1 (.t 31) (.t 29)⟩])
                   .skip)))))))
            (.keep [0, 2, 3, 6]
             (.ops [⟨some 32, none, .bin .add (.t 6) (.k (.int .i64 1))⟩,
               ⟨some 6, none, .mv (.t 32)⟩]))))))))))
    (.keep [2, 3]
     (.seq
      (.ops [⟨some 33, none, .load true 12 (.t 3)⟩,
        ⟨none, none, .store 12 (.t 2) (.t 33)⟩])
      .ret))))) }
structure N225 (R : Env) : Prop where
  o225 : R.Fn 225 c225
  n221 : N221 R
/-- umbra.affine.Axes -/
def c227 : IFn := { np := 1, rs := [.cell 2 true 12], body :=
 (.seq
  (.ops [⟨some 2, none, .alloc 33 [.int .i64 0, .int .i64 0, .int .i64 0, .int .i64 0, .int .i64 0, .int .i64 0, .int .i64 0, .int .i64 0, .int .i64 0, .int .i64 0, .int .i64 0, .int .i64 0]⟩])
  (.seq
   (.ops [⟨some 6, none, .call 221 []⟩,
     ⟨some 3, none, .alloc 33 [.int .i64 0, .int .i64 0, .int .i64 0, .int .i64 0, .int .i64 0, .int .i64 0, .int .i64 0, .int .i64 0, .int .i64 0, .int .i64 0, .int .i64 0, .int .i64 0]⟩,
     ⟨none, none, .store 12 (.t 3) (.t 6)⟩])
   (.seq
    (.seq
     (.ops [⟨some 7, none, .mv (.t 0)⟩,
       ⟨some 8, none, .lenS (.t 7)⟩,
       ⟨some 9, none, .mv (.k (.int .i64 0))⟩])
     (.keep [0, 2, 3, 7, 8, 9]
      (.block 0
       (.loop
        (.seq
         (.ops [⟨some 10, none, .bin .lss (.t 9) (.t 8)⟩])
         (.seq
          (.cond (.t 10)
           .skip
           (.exit 0))
          (.keep [0, 2, 3, 7, 8, 9]
           (.seq
            (.block 1
             (.seq
              (.ops [⟨some 11, none, .mv (.t 9)⟩,
                ⟨some 12, none, .idxS 3 (.t 7) (.t 9)⟩,
                ⟨some 13, none, .load true 3 (.t 12)⟩,
                ⟨some 5, none, .alloc 31 [.int .i64 0, .int .i64 0, .int .i64 0]⟩,
                ⟨some 4, none, .mv (.t 11)⟩,
                ⟨none, none, .store 3 (.t 5) (.t 13)⟩])
              (.keep [0, 2, 3, 4, 5, 7, 8, 9]
               (.seq
                (.ops [⟨some 14, none, .mv (.t 4)⟩,
                  ⟨some 15, none, .bin .lss (.t 14) (.k (.int .i64 3))⟩])
                (.cond (.t 15)
                 (.draw [0, 0, 2, 0, 8, 0, 32, 0, 128, 0, 512, 0, 2145, 6241, 0, 31207, 63975, 0, 262143, 524287] [[4], [4], [17], [4], [19], [5], [21], [5], [23], [5], [25], [3], [27, 16], [28, 22], [3], [29, 18], [30, 24], [3], [31, 20], [32, 26]] [⟨some 16, none, .mv (.t 4)⟩,
                   ⟨some 17, none, .mv (.t 4)⟩,
                   ⟨some 18, none, .bin .add (.k (.int .i64 3)) (.t 17)⟩,
                   ⟨some 19, none, .mv (.t 4)⟩,
                   ⟨some 20, none, .bin .add (.k (.int .i64 6)) (.t 19)⟩,
                   ⟨some 21, none, .fldA 0 (.t 5)⟩,
                   ⟨some 22, none, .load false 1 (.t 21)⟩,
                   ⟨some 23, none, .fldA 1 (.t 5)⟩,
                   ⟨some 24, none, .load false 1 (.t 23)⟩,
                   ⟨some 25, none, .fldA 2 (.t 5)⟩,
                   ⟨some 26, none, .load false 1 (.t 25)⟩,
                   ⟨some 27, none, .fldA 0 (.t 3)⟩,
                   ⟨some 28, none, .idxA 9 1 (.t 27) (.t 16)⟩,
                   ⟨none, none, .store 1 (.t 28) (.t 22)⟩,
                   ⟨some 29, none, .fldA 0 (.t 3)⟩,
                   ⟨some 30, none, .idxA 9 1 (.t 29) (.t 18)⟩,
                   ⟨none, none, .store 1 (.t 30) (.t 24)⟩,
                   ⟨some 31, none, .fldA 0 (.t 3)⟩,
                   ⟨some 32, none, .idxA 9 1 (.t 31) (.t 20)⟩,
                   ⟨none, none, .store 1 (.t 32) (.t 26)⟩])
                 .skip)))))
            (.keep [0, 2, 3, 7, 8, 9]
             (.ops [⟨some 33, none, .bin .add (.t 9) (.k (.int .i64 1))⟩,
               ⟨some 9, none, .mv (.t 33)⟩]))))))))))
    (.keep [0, 2, 3]
     (.seq
      (.seq
       (.ops [⟨some 34, none, .mv (.t 0)⟩,
         ⟨some 35, none, .lenS (.t 34)⟩,
         ⟨some 36, none, .bin .gtr (.t 35) (.k (.int .i64 3))⟩])
       (.cond (.t 36)
        (.ops [⟨some 37, none, .mv (.t 0)⟩,
          ⟨some 38, none, .idxS 3 (.t 37) (.k (.int .i64 3))⟩,
          ⟨some 39, none, .load true 3 (.t 38)⟩,
          ⟨some 40, none, .fldA 9 (.t 3)⟩,
          ⟨none, none, .store 3 (.t 40) (.t 39)⟩])
        .skip))
      (.keep [2, 3]
       (.seq
        (.ops [⟨some 41, none, .load true 12 (.t 3)⟩,
          ⟨none, none, .store 12 (.t 2) (.t 41)⟩])
        .ret))))))) }
structure N227 (R : Env) : Prop where
  o227 : R.Fn 227 c227
  n221 : N221 R
/-- umbra.affine.row -/
def c251 : IFn := { np := 2, rs := [.cell 4 true 3], body :=
 (.seq
  (.ops [⟨some 2, none, .box 37 (.t 0)⟩,
    ⟨some 4, none, .alloc 31 [.int .i64 0, .int .i64 0, .int .i64 0]⟩])
  (.seq
   (.draw [0, 1, 3, 7, 0, 16, 48, 112, 240, 0, 512, 1536, 3584, 7680, 16383, 32767] [[1], [5], [2, 6], [7], [1], [9], [10], [2, 11], [12], [1], [14], [15], [2, 16], [17], [8, 13, 18], [4, 19]] [⟨some 5, none, .mv (.t 1)⟩,
     ⟨some 6, none, .bin .mul (.k (.int .i64 3)) (.t 5)⟩,
     ⟨some 7, none, .idxA 9 1 (.t 2) (.t 6)⟩,
     ⟨some 8, none, .load false 1 (.t 7)⟩,
     ⟨some 9, none, .mv (.t 1)⟩,
     ⟨some 10, none, .bin .mul (.k (.int .i64 3)) (.t 9)⟩,
     ⟨some 11, none, .bin .add (.t 10) (.k (.int .i64 1))⟩,
     ⟨some 12, none, .idxA 9 1 (.t 2) (.t 11)⟩,
     ⟨some 13, none, .load false 1 (.t 12)⟩,
     ⟨some 14, none, .mv (.t 1)⟩,
     ⟨some 15, none, .bin .mul (.k (.int .i64 3)) (.t 14)⟩,
     ⟨some 16, none, .bin .add (.t 15) (.k (.int .i64 2))⟩,
     ⟨some 17, none, .idxA 9 1 (.t 2) (.t 16)⟩,
     ⟨some 18, none, .load false 1 (.t 17)⟩,
     ⟨some 19, none, .build [.int .i64 0, .int .i64 0, .int .i64 0] [(0, 1, .t 8), (1, 1, .t 13), (2, 1, .t 18)]⟩,
     ⟨none, none, .store 3 (.t 4) (.t 19)⟩])
   (.keep [4]
    .ret))) }
structure N251 (R : Env) : Prop where
  o251 : R.Fn 251 c251
/-- umbra.affine.Turn -/
def c231 : IFn := { np := 2, rs := [.cell 4 true 3], body :=
 (.seq
  (.ops [⟨some 2, none, .box 33 (.t 0)⟩,
    ⟨some 3, none, .box 31 (.t 1)⟩,
    ⟨some 4, none, .alloc 31 [.int .i64 0, .int .i64 0, .int .i64 0]⟩])
  (.seq
   (.draw [0, 1, 3, 0, 15, 0, 32, 127, 0, 511, 0, 1024, 4095, 0, 16383, 32767, 65535] [[2], [5], [6], [3], [7, 8], [2], [10], [11], [3], [12, 13], [2], [15], [16], [3], [17, 18], [9, 14, 19], [4, 20]] [⟨some 5, none, .fldA 0 (.t 2)⟩,
     ⟨some 6, none, .load true 9 (.t 5)⟩,
     ⟨some 7, none, .call 251 [.t 6, .k (.int .i64 0)]⟩,
     ⟨some 8, none, .load true 3 (.t 3)⟩,
     ⟨some 9, none, .call 252 [.t 7, .t 8]⟩,
     ⟨some 10, none, .fldA 0 (.t 2)⟩,
     ⟨some 11, none, .load true 9 (.t 10)⟩,
     ⟨some 12, none, .call 251 [.t 11, .k (.int .i64 1)]⟩,
     ⟨some 13, none, .load true 3 (.t 3)⟩,
     ⟨some 14, none, .call 252 [.t 12, .t 13]⟩,
     ⟨some 15, none, .fldA 0 (.t 2)⟩,
     ⟨some 16, none, .load true 9 (.t 15)⟩,
     ⟨some 17, none, .call 251 [.t 16, .k (.int .i64 2)]⟩,
     ⟨some 18, none, .load true 3 (.t 3)⟩,
     ⟨some 19, none, .call 252 [.t 17, .t 18]⟩,
     ⟨some 20, none, .build [.int .i64 0, .int .i64 0, .int .i64 0] [(0, 1, .t 9), (1, 1, .t 14), (2, 1, .t 19)]⟩,
     ⟨none, none, .store 3 (.t 4) (.t 20)⟩])
   (.keep [4]
    .ret))) }
structure N231 (R : Env) : Prop where
  o231 : R.Fn 231 c231
  n251 : N251 R
  n252 : N252 R
/-- umbra.affine.Apply -/
def c233 : IFn := { np := 2, rs := [.cell 4 true 3], body :=
 (.seq
  (.ops [⟨some 2, none, .box 33 (.t 0)⟩,
    ⟨some 3, none, .box 31 (.t 1)⟩,
    ⟨some 4, none, .alloc 31 [.int .i64 0, .int .i64 0, .int .i64 0]⟩])
  (.seq
   (.draw [0, 0, 3, 0, 8, 31, 63, 127] [[2], [3], [5, 6], [2], [8], [7, 9], [10], [4, 11]] [⟨some 5, none, .load true 12 (.t 2)⟩,
     ⟨some 6, none, .load true 3 (.t 3)⟩,
     ⟨some 7, none, .call 231 [.t 5, .t 6]⟩,
     ⟨some 8, none, .fldA 9 (.t 2)⟩,
     ⟨some 9, none, .load true 3 (.t 8)⟩,
     ⟨some 10, none, .bslice 31 3 2 [.int .i64 0, .int .i64 0, .int .i64 0] [(0, .t 7), (1, .t 9)]⟩,
     ⟨some 11, none, .call 246 [.t 10]⟩,
     ⟨none, none, .store 3 (.t 4) (.t 11)⟩])
   (.keep [4]
    .ret))) }
structure N233 (R : Env) : Prop where
  o233 : R.Fn 233 c233
  n231 : N231 R
  n246 : N246 R
/-- umbra.affine.column -/
def c258 : IFn := { np := 2, rs := [.cell 4 true 3], body :=
 (.seq
  (.ops [⟨some 2, none, .box 37 (.t 0)⟩,
    ⟨some 4, none, .alloc 31 [.int .i64 0, .int .i64 0, .int .i64 0]⟩])
  (.seq
   (.draw [0, 1, 3, 0, 8, 24, 56, 0, 128, 384, 896, 2047, 4095] [[1], [2, 5], [6], [1], [8], [2, 9], [10], [1], [12], [2, 13], [14], [7, 11, 15], [4, 16]] [⟨some 5, none, .mv (.t 1)⟩,
     ⟨some 6, none, .idxA 9 1 (.t 2) (.t 5)⟩,
     ⟨some 7, none, .load false 1 (.t 6)⟩,
     ⟨some 8, none, .mv (.t 1)⟩,
     ⟨some 9, none, .bin .add (.k (.int .i64 3)) (.t 8)⟩,
     ⟨some 10, none, .idxA 9 1 (.t 2) (.t 9)⟩,
     ⟨some 11, none, .load false 1 (.t 10)⟩,
     ⟨some 12, none, .mv (.t 1)⟩,
     ⟨some 13, none, .bin .add (.k (.int .i64 6)) (.t 12)⟩,
     ⟨some 14, none, .idxA 9 1 (.t 2) (.t 13)⟩,
     ⟨some 15, none, .load false 1 (.t 14)⟩,
     ⟨some 16, none, .build [.int .i64 0, .int .i64 0, .int .i64 0] [(0, 1, .t 7), (1, 1, .t 11), (2, 1, .t 15)]⟩,
     ⟨none, none, .store 3 (.t 4) (.t 16)⟩])
   (.keep [4]
    .ret))) }
structure N258 (R : Env) : Prop where
  o258 : R.Fn 258 c258
/-- umbra.affine.Then -/
def c238 : IFn := { np := 1, rs := [.cell 2 true 12], body :=
 (.seq
  (.ops [⟨some 2, none, .alloc 33 [.int .i64 0, .int .i64 0, .int .i64 0, .int .i64 0, .int .i64 0, .int .i64 0, .int .i64 0, .int .i64 0, .int .i64 0, .int .i64 0, .int .i64 0, .int .i64 0]⟩])
  (.seq
   (.ops [⟨some 6, none, .call 221 []⟩,
     ⟨some 3, none, .alloc 33 [.int .i64 0, .int .i64 0, .int .i64 0, .int .i64 0, .int .i64 0, .int .i64 0, .int .i64 0, .int .i64 0, .int .i64 0, .int .i64 0, .int .i64 0, .int .i64 0]⟩,
     ⟨none, none, .store 12 (.t 3) (.t 6)⟩])
   (.seq
    (.seq
     (.ops [⟨some 7, none, .mv (.t 0)⟩,
       ⟨some 8, none, .lenS (.t 7)⟩,
       ⟨some 9, none, .mv (.k (.int .i64 0))⟩])
     (.keep [2, 3, 7, 8, 9]
      (.block 0
       (.loop
        (.seq
         (.ops [⟨some 10, none, .bin .lss (.t 9) (.t 8)⟩])
         (.seq
          (.cond (.t 10)
           .skip
           (.exit 0))
          (.keep [2, 3, 7, 8, 9]
           (.seq
            (.block 1
             (.seq
              (.ops [⟨some 11, none, .mv (.t 9)⟩,
                ⟨some 12, none, .idxS 12 (.t 7) (.t 9)⟩,
                ⟨some 13, none, .load true 12 (.t 12)⟩,
                ⟨some 5, none, .alloc 33 [.int .i64 0, .int .i64 0, .int .i64 0, .int .i64 0, .int .i64 0, .int .i64 0, .int .i64 0, .int .i64 0, .int .i64 0, .int .i64 0, .int .i64 0, .int .i64 0]⟩,
                ⟨some 4, none, .mv (.t 11)⟩,
                ⟨none, none, .store 12 (.t 5) (.t 13)⟩])
              (.keep [2, 3, 4, 5, 7, 8, 9]
               (.seq
                (.seq
                 (.ops [⟨some 14, none, .mv (.t 4)⟩,
                   ⟨some 15, none, .bin .eql (.t 14) (.k (.int .i64 0))⟩])
                 (.cond (.t 15)
                  (.seq
                   (.ops [⟨some 16, none, .load true 12 (.t 5)⟩,
                     ⟨none, none, .store 12 (.t 3) (.t 16)⟩])
                   (.exit 1))
                  .skip))
                (.keep [2, 3, 5, 7, 8, 9]
                 (.draw [0, 0, 2, 6, 15, 0, 0, 64, 223, 511, 0, 0, 2048, 7167, 16383, 0, 0, 65536, 262143, 524287, 1048575, 2097151] [[5], [3], [18], [19], [17, 20], [5], [3], [23], [24], [22, 25], [5], [3], [28], [29], [27, 30], [5], [3], [33], [32, 34], [21, 26, 31, 35], [36], [3, 37]] [⟨some 17, none, .load true 12 (.t 5)⟩,
                   ⟨some 18, none, .fldA 0 (.t 3)⟩,
                   ⟨some 19, none, .load true 9 (.t 18)⟩,
                   ⟨some 20, none, .call 258 [.t 19, .k (.int .i64 0)]⟩,
                   ⟨some 21, none, .call 231 [.t 17, .t 20]⟩,
                   ⟨some 22, none, .load true 12 (.t 5)⟩,
                   ⟨some 23, none, .fldA 0 (.t 3)⟩,
                   ⟨some 24, none, .load true 9 (.t 23)⟩,
                   ⟨some 25, none, .call 258 [.t 24, .k (.int .i64 1)]⟩,
                   ⟨some 26, none, .call 231 [.t 22, .t 25]⟩,
                   ⟨some 27, none, .load true 12 (.t 5)⟩,
                   ⟨some 28, none, .fldA 0 (.t 3)⟩,
                   ⟨some 29, none, .load true 9 (.t 28)⟩,
                   ⟨some 30, none, .call 258 [.t 29, .k (.int .i64 2)]⟩,
                   ⟨some 31, none, .call 231 [.t 27, .t 30]⟩,
                   ⟨some 32, none, .load true 12 (.t 5)⟩,
                   ⟨some 33, none, .fldA 9 (.t 3)⟩,
                   ⟨some 34, none, .load true 3 (.t 33)⟩,
                   ⟨some 35, none, .call 233 [.t 32, .t 34]⟩,
                   ⟨some 36, none, .bslice 31 3 4 [.int .i64 0, .int .i64 0, .int .i64 0] [(0, .t 21), (1, .t 26), (2, .t 31), (3, .t 35)]⟩,
                   ⟨some 37, none, .call 227 [.t 36]⟩,
                   ⟨none, none, .store 12 (.t 3) (.t 37)⟩]))))))
            (.keep [2, 3, 7, 8, 9]
             (.ops [⟨some 38, none, .bin .add (.t 9) (.k (.int .i64 1))⟩,
               ⟨some 9, none, .mv (.t 38)⟩]))))))))))
    (.keep [2, 3]
     (.seq
      (.ops [⟨some 39, none, .load true 12 (.t 3)⟩,
        ⟨none, none, .store 12 (.t 2) (.t 39)⟩])
      .ret))))) }
structure N238 (R : Env) : Prop where
  o238 : R.Fn 238 c238
  n221 : N221 R
  n227 : N227 R
  n231 : N231 R
  n233 : N233 R
  n258 : N258 R
/-- umbra.affine.Check -/
def c235 : IFn := { np := 1, rs := [.t 2], body :=
 (.seq
  (.ops [⟨some 1, none, .box 33 (.t 0)⟩,
    ⟨some 2, none, .mv (.k (.int .i64 0))⟩])
  (.seq
   (.seq
    (.ops [⟨some 5, none, .fldA 0 (.t 1)⟩,
      ⟨some 6, none, .load true 9 (.t 5)⟩,
      ⟨some 7, none, .mv (.k (.int .i64 0))⟩])
    (.keep [1, 6, 7]
     (.block 0
      (.loop
       (.seq
        (.ops [⟨some 8, none, .bin .lss (.t 7) (.k (.int .i64 9))⟩])
        (.seq
         (.cond (.t 8)
          .skip
          (.exit 0))
         (.keep [1, 6, 7]
          (.seq
           (.block 1
            (.seq
             (.ops [⟨some 9, none, .idxV false 9 1 (.t 6) (.t 7)⟩,
               ⟨some 4, none, .mv (.t 9)⟩])
             (.seq
              (.ops [⟨some 10, none, .mv (.t 4)⟩,
                ⟨some 11, none, .call 255 [.t 10]⟩,
                ⟨some 12, none, .bin .gtr (.t 11) (.k (.int .i64 1099511627776))⟩])
              (.cond (.t 12)
               (.seq
                (.ops [⟨some 2, none, .mv (.k (.int .i64 2))⟩])
                .ret)
               .skip))))
           (.keep [1, 6, 7]
            (.ops [⟨some 13, none, .bin .add (.t 7) (.k (.int .i64 1))⟩,
              ⟨some 7, none, .mv (.t 13)⟩]))))))))))
   (.keep [1]
    (.seq
     (.seq
      (.ops [⟨some 14, none, .fldA 9 (.t 1)⟩,
        ⟨some 15, none, .load true 3 (.t 14)⟩,
        ⟨some 16, none, .call 256 [.t 15]⟩,
        ⟨some 17, none, .bin .gtr (.t 16) (.k (.int .i64 562949953421312))⟩])
      (.cond (.t 17)
       (.seq
        (.ops [⟨some 2, none, .mv (.k (.int .i64 2))⟩])
        .ret)
       .skip))
     (.keep []
      (.seq
       (.ops [⟨some 2, none, .mv (.k (.int .i64 0))⟩])
       .ret)))))) }
structure N235 (R : Env) : Prop where
  o235 : R.Fn 235 c235
  n255 : N255 R
  n256 : N256 R
/-- umbra.affine.Snap -/
def c243 : IFn := { np := 1, rs := [.cell 2 true 3, .t 3], body :=
 (.seq
  (.ops [⟨some 1, none, .box 31 (.t 0)⟩,
    ⟨some 2, none, .alloc 26 [.int .i64 0, .int .i64 0, .int .i64 0]⟩,
    ⟨some 3, none, .mv (.k (.int .i64 0))⟩])
  (.seq
   (.draw [0, 1, 3, 0, 8, 31, 0, 64, 255, 511, 0, 2047] [[1], [5], [6], [1], [8], [9], [1], [11], [12], [7, 10, 13], [], [4, 14]] [⟨some 5, none, .fldA 0 (.t 1)⟩,
     ⟨some 6, none, .load false 1 (.t 5)⟩,
     ⟨some 7, none, .call 260 [.t 6]⟩,
     ⟨some 8, none, .fldA 1 (.t 1)⟩,
     ⟨some 9, none, .load false 1 (.t 8)⟩,
     ⟨some 10, none, .call 260 [.t 9]⟩,
     ⟨some 11, none, .fldA 2 (.t 1)⟩,
     ⟨some 12, none, .load false 1 (.t 11)⟩,
     ⟨some 13, none, .call 260 [.t 12]⟩,
     ⟨some 14, none, .build [.int .i64 0, .int .i64 0, .int .i64 0] [(0, 1, .t 7), (1, 1, .t 10), (2, 1, .t 13)]⟩,
     ⟨some 4, none, .alloc 26 [.int .i64 0, .int .i64 0, .int .i64 0]⟩,
     ⟨none, none, .store 3 (.t 4) (.t 14)⟩])
   (.keep [2, 4]
    (.seq
     (.seq
      (.ops [⟨some 15, none, .fldA 0 (.t 4)⟩,
        ⟨some 16, none, .load false 1 (.t 15)⟩,
        ⟨some 17, none, .fldA 1 (.t 4)⟩,
        ⟨some 18, none, .load false 1 (.t 17)⟩,
        ⟨some 19, none, .fldA 2 (.t 4)⟩,
        ⟨some 20, none, .load false 1 (.t 19)⟩,
        ⟨some 21, none, .mm true [.t 16, .t 18, .t 20]⟩,
        ⟨some 22, none, .bin .gtr (.t 21) (.k (.int .i64 65536))⟩,
        ⟨some 23, none, .mv (.t 22)⟩,
        ⟨some 24, some (23, false), .fldA 0 (.t 4)⟩,
        ⟨some 25, some (23, false), .load false 1 (.t 24)⟩,
        ⟨some 26, some (23, false), .fldA 1 (.t 4)⟩,
        ⟨some 27, some (23, false), .load false 1 (.t 26)⟩,
        ⟨some 28, some (23, false), .fldA 2 (.t 4)⟩,
        ⟨some 29, some (23, false), .load false 1 (.t 28)⟩,
        ⟨some 30, some (23, false), .mm false [.t 25, .t 27, .t 29]⟩,
        ⟨some 31, some (23, false), .bin .lss (.t 30) (.k (.int .i64 (-65536)))⟩,
        ⟨some 32, none, .pick (.t 23) (.k (.bool true)) (.t 31)⟩])
      (.keep [2, 4, 32]
       (.cond (.t 32)
        (.seq
         (.ops [⟨some 33, none, .build [.int .i64 0, .int .i64 0, .int .i64 0] []⟩,
           ⟨none, none, .store 3 (.t 2) (.t 33)⟩,
           ⟨some 3, none, .mv (.k (.int .i64 8))⟩])
         .ret)
        .skip)))
     (.keep [2, 4]
      (.seq
       (.ops [⟨some 34, none, .load true 3 (.t 4)⟩,
         ⟨none, none, .store 3 (.t 2) (.t 34)⟩,
         ⟨some 3, none, .mv (.k (.int .i64 0))⟩])
       .ret)))))) }
structure N243 (R : Env) : Prop where
  o243 : R.Fn 243 c243
  n260 : N260 R
/-- umbra.affine.Place -/
def c241 : IFn := { np := 2, rs := [.cell 4 true 3, .t 5], body :=
 (.seq
  (.ops [⟨some 2, none, .box 33 (.t 0)⟩,
    ⟨some 3, none, .box 26 (.t 1)⟩,
    ⟨some 4, none, .alloc 26 [.int .i64 0, .int .i64 0, .int .i64 0]⟩,
    ⟨some 5, none, .mv (.k (.int .i64 0))⟩])
  (.seq
   (.seq
    (.ops [⟨some 7, none, .load true 12 (.t 2)⟩,
      ⟨some 8, none, .call 235 [.t 7]⟩,
      ⟨some 6, none, .mv (.t 8)⟩])
    (.seq
     (.ops [⟨some 9, none, .mv (.t 6)⟩,
       ⟨some 10, none, .bin .neq (.t 9) (.k (.int .i64 0))⟩])
     (.cond (.t 10)
      (.seq
       (.ops [⟨some 11, none, .build [.int .i64 0, .int .i64 0, .int .i64 0] []⟩,
         ⟨some 12, none, .mv (.t 6)⟩,
         ⟨none, none, .store 3 (.t 4) (.t 11)⟩,
         ⟨some 5, none, .mv (.t 12)⟩])
       .ret)
      .skip)))
   (.keep [2, 3, 4]
    (.seq
     (.draw [0, 0, 2, 7, 15, 31, 31, 127, 255] [[2], [3], [14], [13, 15], [16], [17], [17], [4, 18], [19]] [⟨some 13, none, .load true 12 (.t 2)⟩,
       ⟨some 14, none, .load true 3 (.t 3)⟩,
       ⟨some 15, none, .call 249 [.t 14]⟩,
       ⟨some 16, none, .call 233 [.t 13, .t 15]⟩,
       ⟨some 17, none, .call 243 [.t 16]⟩,
       ⟨some 18, none, .ext (.t 17) 0⟩,
       ⟨some 19, none, .ext (.t 17) 1⟩,
       ⟨none, none, .store 3 (.t 4) (.t 18)⟩,
       ⟨some 5, none, .mv (.t 19)⟩])
     (.keep [4, 5]
      .ret))))) }
structure N241 (R : Env) : Prop where
  o241 : R.Fn 241 c241
  n233 : N233 R
  n235 : N235 R
  n243 : N243 R
  n249 : N249 R
end Go.UM

/- The resolved code of package umbraref02, function by function; numbers are those of the register, the same for all programs. -/

namespace Go.UM
open Go.AM
/-- umbra.umbraref02.Size -/
def c279 : IFn := { np := 1, rs := [.t 2], body :=
 (.seq
  (.ops [⟨some 2, none, .mv (.k (.int .u64 0))⟩])
  (.seq
   (.seq
    (.ops [⟨some 3, none, .mv (.t 0)⟩,
      ⟨some 4, none, .bin .lss (.t 3) (.k (.int .i64 0))⟩])
    (.cond (.t 4)
     (.seq
      (.ops [⟨some 5, none, .mv (.t 0)⟩,
        ⟨some 6, none, .bin .add (.t 5) (.k (.int .i64 1))⟩,
        ⟨some 7, none, .un .neg (.t 6)⟩,
        ⟨some 8, none, .conv .u64 (.t 7)⟩,
        ⟨some 9, none, .bin .add (.t 8) (.k (.int .u64 1))⟩,
        ⟨some 2, none, .mv (.t 9)⟩])
      (.keep [2]
       .ret))
     .skip))
   (.keep [0]
    (.seq
     (.ops [⟨some 10, none, .mv (.t 0)⟩,
       ⟨some 11, none, .conv .u64 (.t 10)⟩,
       ⟨some 2, none, .mv (.t 11)⟩])
     .ret)))) }
structure N279 (R : Env) : Prop where
  o279 : R.Fn 279 c279
/-- umbra.umbraref02.Near -/
def c280 : IFn := { np := 3, rs := [.t 6], body :=
 (.seq
  (.ops [⟨some 6, none, .mv (.k (.int .i64 0))⟩])
  (.seq
   (.seq
    (.ops [⟨some 7, none, .mv (.t 1)⟩])
    (.cond (.t 7)
     (.seq
      (.seq
       (.ops [⟨some 8, none, .mv (.t 2)⟩,
         ⟨some 9, none, .mv (.t 8)⟩,
         ⟨some 10, some (9, false), .mv (.t 0)⟩,
         ⟨some 11, some (9, false), .bin .geq (.t 10) (.k (.int .u64 9223372036854775808))⟩,
         ⟨some 12, none, .pick (.t 9) (.k (.bool true)) (.t 11)⟩])
       (.keep [0, 12]
        (.cond (.t 12)
         (.seq
          (.ops [⟨some 6, none, .mv (.k (.int .i64 (-9223372036854775808)))⟩])
          .ret)
         .skip)))
      (.keep [0]
       (.seq
        (.ops [⟨some 13, none, .mv (.t 0)⟩,
          ⟨some 14, none, .conv .i64 (.t 13)⟩,
          ⟨some 15, none, .un .neg (.t 14)⟩,
          ⟨some 6, none, .mv (.t 15)⟩])
        .ret)))
     .skip))
   (.keep [0, 2]
    (.seq
     (.seq
      (.ops [⟨some 16, none, .mv (.t 2)⟩,
        ⟨some 17, none, .mv (.t 16)⟩,
        ⟨some 18, some (17, false), .mv (.t 0)⟩,
        ⟨some 19, some (17, false), .bin .geq (.t 18) (.k (.int .u64 9223372036854775808))⟩,
        ⟨some 20, none, .pick (.t 17) (.k (.bool true)) (.t 19)⟩])
      (.keep [0, 20]
       (.cond (.t 20)
        (.seq
         (.ops [⟨some 6, none, .mv (.k (.int .i64 9223372036854775807))⟩])
         .ret)
        .skip)))
     (.keep [0]
      (.seq
       (.ops [⟨some 21, none, .mv (.t 0)⟩,
         ⟨some 22, none, .conv .i64 (.t 21)⟩,
         ⟨some 6, none, .mv (.t 22)⟩])
       .ret)))))) }
structure N280 (R : Env) : Prop where
  o280 : R.Fn 280 c280
/-- umbra.umbraref02.Times -/
def c268 : IFn := { np := 2, rs := [.t 4], body :=
 (.seq
  (.ops [⟨some 4, none, .mv (.k (.int .i64 0))⟩])
  (.seq
   (.ops [⟨some 11, none, .mv (.t 0)⟩,
     ⟨some 12, none, .call 279 [.t 11]⟩,
     ⟨some 13, none, .mv (.t 1)⟩,
     ⟨some 14, none, .call 279 [.t 13]⟩,
     ⟨some 15, none, .call 276 [.t 12, .t 14]⟩,
     ⟨some 10, none, .mv (.t 15)⟩,
     ⟨some 16, none, .ext (.t 10) 0⟩,
     ⟨some 17, none, .ext (.t 10) 1⟩,
     ⟨some 5, none, .mv (.t 16)⟩,
     ⟨some 6, none, .mv (.t 17)⟩])
   (.keep [0, 1, 5, 6]
    (.seq
     (.ops [⟨some 18, none, .mv (.t 5)⟩,
       ⟨some 19, none, .bin .shl (.t 18) (.k (.int .u64 32))⟩,
       ⟨some 20, none, .mv (.t 6)⟩,
       ⟨some 21, none, .bin .shr (.t 20) (.k (.int .u64 32))⟩,
       ⟨some 22, none, .bin .or (.t 19) (.t 21)⟩,
       ⟨some 7, none, .mv (.t 22)⟩])
     (.keep [0, 1, 5, 6, 7]
      (.seq
       (.ops [⟨some 23, none, .mv (.t 5)⟩,
         ⟨some 24, none, .bin .geq (.t 23) (.k (.int .u64 4294967296))⟩,
         ⟨some 8, none, .mv (.t 24)⟩])
       (.seq
        (.ops [⟨some 25, none, .mv (.t 0)⟩,
          ⟨some 26, none, .bin .lss (.t 25) (.k (.int .i64 0))⟩,
          ⟨some 27, none, .mv (.t 1)⟩,
          ⟨some 28, none, .bin .lss (.t 27) (.k (.int .i64 0))⟩,
          ⟨some 29, none, .eqb true (.t 26) (.t 28)⟩,
          ⟨some 9, none, .mv (.t 29)⟩])
        (.keep [6, 7, 8, 9]
         (.seq
          (.seq
           (.ops [⟨some 30, none, .mv (.t 9)⟩,
             ⟨some 31, none, .mv (.t 30)⟩,
             ⟨some 32, some (31, true), .mv (.t 6)⟩,
             ⟨some 33, some (31, true), .bin .and (.t 32) (.k (.int .u64 4294967295))⟩,
             ⟨some 34, some (31, true), .bin .gtr (.t 33) (.k (.int .u64 0))⟩,
             ⟨some 35, none, .pick (.t 31) (.t 34) (.k (.bool false))⟩])
           (.keep [7, 8, 9, 35]
            (.cond (.t 35)
             (.seq
              (.ops [⟨some 36, none, .mv (.t 7)⟩,
                ⟨some 37, none, .bin .add (.t 36) (.k (.int .u64 1))⟩,
                ⟨some 7, none, .mv (.t 37)⟩])
              (.ops [⟨some 38, none, .mv (.t 8)⟩,
                ⟨some 39, none, .mv (.t 38)⟩,
                ⟨some 40, some (39, false), .mv (.t 7)⟩,
                ⟨some 41, some (39, false), .bin .eql (.t 40) (.k (.int .u64 0))⟩,
                ⟨some 42, none, .pick (.t 39) (.k (.bool true)) (.t 41)⟩,
                ⟨some 8, none, .mv (.t 42)⟩]))
             .skip)))
          (.keep [7, 8, 9]
           (.seq
            (.ops [⟨some 43, none, .mv (.t 7)⟩,
              ⟨some 44, none, .mv (.t 9)⟩,
              ⟨some 45, none, .mv (.t 8)⟩,
              ⟨some 46, none, .call 280 [.t 43, .t 44, .t 45]⟩,
              ⟨some 4, none, .mv (.t 46)⟩])
            (.keep [4]
             .ret)))))))))))) }
structure N268 (R : Env) : Prop where
  o268 : R.Fn 268 c268
  n276 : N276 R
  n279 : N279 R
  n280 : N280 R
/-- umbra.umbraref02.Two -/
def c269 : IFn := { np := 2, rs := [.t 4], body :=
 (.seq
  (.ops [⟨some 4, none, .mv (.k (.int .i64 0))⟩])
  (.seq
   (.ops [⟨some 7, none, .mv (.t 0)⟩,
     ⟨some 8, none, .call 279 [.t 7]⟩,
     ⟨some 9, none, .mv (.t 1)⟩,
     ⟨some 10, none, .call 279 [.t 9]⟩,
     ⟨some 5, none, .mv (.t 8)⟩,
     ⟨some 6, none, .mv (.t 10)⟩])
   (.keep [0, 1, 5, 6]
    (.seq
     (.seq
      (.ops [⟨some 11, none, .mv (.t 0)⟩,
        ⟨some 12, none, .bin .lss (.t 11) (.k (.int .i64 0))⟩,
        ⟨some 13, none, .mv (.t 1)⟩,
        ⟨some 14, none, .bin .lss (.t 13) (.k (.int .i64 0))⟩,
        ⟨some 15, none, .eqb false (.t 12) (.t 14)⟩])
      (.keep [0, 1, 5, 6, 15]
       (.cond (.t 15)
        (.seq
         (.ops [⟨some 16, none, .mv (.t 5)⟩,
           ⟨some 17, none, .mv (.t 6)⟩,
           ⟨some 18, none, .bin .add (.t 16) (.t 17)⟩,
           ⟨some 19, none, .mv (.t 0)⟩,
           ⟨some 20, none, .bin .lss (.t 19) (.k (.int .i64 0))⟩,
           ⟨some 21, none, .mv (.t 5)⟩,
           ⟨some 22, none, .mv (.t 6)⟩,
           ⟨some 23, none, .bin .add (.t 21) (.t 22)⟩,
           ⟨some 24, none, .mv (.t 5)⟩,
           ⟨some 25, none, .bin .lss (.t 23) (.t 24)⟩,
           ⟨some 26, none, .call 280 [.t 18, .t 20, .t 25]⟩,
           ⟨some 4, none, .mv (.t 26)⟩])
         (.keep [4]
          .ret))
        .skip)))
     (.keep [0, 1]
      (.seq
       (.ops [⟨some 27, none, .mv (.t 0)⟩,
         ⟨some 28, none, .mv (.t 1)⟩,
         ⟨some 29, none, .bin .add (.t 27) (.t 28)⟩,
         ⟨some 4, none, .mv (.t 29)⟩])
       .ret)))))) }
structure N269 (R : Env) : Prop where
  o269 : R.Fn 269 c269
  n279 : N279 R
  n280 : N280 R
/-- umbra.umbraref02.Sub -/
def c282 : IFn := { np := 2, rs := [.t 4], body :=
 (.seq
  (.ops [⟨some 4, none, .mv (.k (.int .i64 0))⟩])
  (.seq
   (.ops [⟨some 7, none, .mv (.t 0)⟩,
     ⟨some 8, none, .call 279 [.t 7]⟩,
     ⟨some 9, none, .mv (.t 1)⟩,
     ⟨some 10, none, .call 279 [.t 9]⟩,
     ⟨some 5, none, .mv (.t 8)⟩,
     ⟨some 6, none, .mv (.t 10)⟩])
   (.keep [0, 1, 5, 6]
    (.seq
     (.seq
      (.ops [⟨some 11, none, .mv (.t 0)⟩,
        ⟨some 12, none, .bin .lss (.t 11) (.k (.int .i64 0))⟩,
        ⟨some 13, none, .mv (.t 1)⟩,
        ⟨some 14, none, .bin .lss (.t 13) (.k (.int .i64 0))⟩,
        ⟨some 15, none, .eqb true (.t 12) (.t 14)⟩])
      (.keep [0, 1, 5, 6, 15]
       (.cond (.t 15)
        (.seq
         (.ops [⟨some 16, none, .mv (.t 5)⟩,
           ⟨some 17, none, .mv (.t 6)⟩,
           ⟨some 18, none, .bin .add (.t 16) (.t 17)⟩,
           ⟨some 19, none, .mv (.t 0)⟩,
           ⟨some 20, none, .bin .lss (.t 19) (.k (.int .i64 0))⟩,
           ⟨some 21, none, .mv (.t 5)⟩,
           ⟨some 22, none, .mv (.t 6)⟩,
           ⟨some 23, none, .bin .add (.t 21) (.t 22)⟩,
           ⟨some 24, none, .mv (.t 5)⟩,
           ⟨some 25, none, .bin .lss (.t 23) (.t 24)⟩,
           ⟨some 26, none, .call 280 [.t 18, .t 20, .t 25]⟩,
           ⟨some 4, none, .mv (.t 26)⟩])
         (.keep [4]
          .ret))
        .skip)))
     (.keep [0, 1]
      (.seq
       (.ops [⟨some 27, none, .mv (.t 0)⟩,
         ⟨some 28, none, .mv (.t 1)⟩,
         ⟨some 29, none, .bin .sub (.t 27) (.t 28)⟩,
         ⟨some 4, none, .mv (.t 29)⟩])
       .ret)))))) }
structure N282 (R : Env) : Prop where
  o282 : R.Fn 282 c282
  n279 : N279 R
  n280 : N280 R
/-- umbra.umbraref02.Floor -/
def c273 : IFn := { np := 1, rs := [.t 2], body :=
 (.seq
  (.ops [⟨some 2, none, .mv (.k (.int .i64 0))⟩])
  (.seq
   (.ops [⟨some 4, none, .mv (.t 0)⟩,
     ⟨some 5, none, .call 279 [.t 4]⟩,
     ⟨some 3, none, .mv (.t 5)⟩])
   (.seq
    (.seq
     (.ops [⟨some 6, none, .mv (.t 0)⟩,
       ⟨some 7, none, .bin .geq (.t 6) (.k (.int .i64 0))⟩])
     (.cond (.t 7)
      (.seq
       (.ops [⟨some 8, none, .mv (.t 3)⟩,
         ⟨some 9, none, .bin .shr (.t 8) (.k (.int .u64 32))⟩,
         ⟨some 10, none, .conv .i64 (.t 9)⟩,
         ⟨some 2, none, .mv (.t 10)⟩])
       .ret)
      .skip))
    (.keep [3]
     (.seq
      (.seq
       (.ops [⟨some 11, none, .mv (.t 3)⟩,
         ⟨some 12, none, .bin .and (.t 11) (.k (.int .u64 4294967295))⟩,
         ⟨some 13, none, .bin .eql (.t 12) (.k (.int .u64 0))⟩])
       (.cond (.t 13)
        (.seq
         (.ops [⟨some 14, none, .mv (.t 3)⟩,
           ⟨some 15, none, .bin .shr (.t 14) (.k (.int .u64 32))⟩,
           ⟨some 16, none, .conv .i64 (.t 15)⟩,
           ⟨some 17, none, .un .neg (.t 16)⟩,
           ⟨some 2, none, .mv (.t 17)⟩])
         (.keep [2]
          .ret))
        .skip))
      (.keep [3]
       (.seq
        (.ops [⟨some 18, none, .mv (.t 3)⟩,
          ⟨some 19, none, .bin .shr (.t 18) (.k (.int .u64 32))⟩,
          ⟨some 20, none, .conv .i64 (.t 19)⟩,
          ⟨some 21, none, .un .neg (.t 20)⟩,
          ⟨some 22, none, .bin .sub (.t 21) (.k (.int .i64 1))⟩,
          ⟨some 2, none, .mv (.t 22)⟩])
        (.keep [2]
         .ret)))))))) }
structure N273 (R : Env) : Prop where
  o273 : R.Fn 273 c273
  n279 : N279 R
/-- umbra.umbraref02.Round -/
def c261 : IFn := { np := 1, rs := [.t 2], body :=
 (.seq
  (.ops [⟨some 2, none, .mv (.k (.int .i64 0))⟩])
  (.seq
   (.seq
    (.ops [⟨some 3, none, .mv (.t 0)⟩,
      ⟨some 4, none, .bin .geq (.t 3) (.k (.int .i64 9223372034707292160))⟩])
    (.cond (.t 4)
     (.seq
      (.ops [⟨some 2, none, .mv (.k (.int .i64 2147483648))⟩])
      .ret)
     .skip))
   (.keep [0]
    (.seq
     (.ops [⟨some 5, none, .mv (.t 0)⟩,
       ⟨some 6, none, .bin .add (.t 5) (.k (.int .i64 2147483648))⟩,
       ⟨some 7, none, .call 273 [.t 6]⟩,
       ⟨some 2, none, .mv (.t 7)⟩])
     .ret)))) }
structure N261 (R : Env) : Prop where
  o261 : R.Fn 261 c261
  n273 : N273 R
/-- umbra.umbraref02.Of -/
def c272 : IFn := { np := 1, rs := [.t 2], body :=
 (.seq
  (.ops [⟨some 2, none, .mv (.k (.int .i64 0))⟩])
  (.seq
   (.ops [⟨some 4, none, .mv (.t 0)⟩,
     ⟨some 5, none, .call 279 [.t 4]⟩,
     ⟨some 3, none, .mv (.t 5)⟩])
   (.seq
    (.ops [⟨some 6, none, .mv (.t 3)⟩,
      ⟨some 7, none, .bin .shl (.t 6) (.k (.int .u64 32))⟩,
      ⟨some 8, none, .mv (.t 0)⟩,
      ⟨some 9, none, .bin .lss (.t 8) (.k (.int .i64 0))⟩,
      ⟨some 10, none, .mv (.t 3)⟩,
      ⟨some 11, none, .bin .geq (.t 10) (.k (.int .u64 4294967296))⟩,
      ⟨some 12, none, .call 280 [.t 7, .t 9, .t 11]⟩,
      ⟨some 2, none, .mv (.t 12)⟩])
    (.keep [2]
     .ret)))) }
structure N272 (R : Env) : Prop where
  o272 : R.Fn 272 c272
  n279 : N279 R
  n280 : N280 R
end Go.UM

/- The resolved code of package umbraref03, function by function; numbers are those of the register, the same for all programs. -/

namespace Go.UM
open Go.AM
/-- umbra.umbraref03.Dot -/
def c253 : IFn := { np := 2, rs := [.t 4], body :=
 (.seq
  (.ops [⟨some 2, none, .box 31 (.t 0)⟩,
    ⟨some 3, none, .box 31 (.t 1)⟩,
    ⟨some 4, none, .mv (.k (.int .i64 0))⟩])
  (.seq
   (.ops [⟨some 6, none, .fldA 0 (.t 2)⟩,
     ⟨some 7, none, .load false 1 (.t 6)⟩,
     ⟨some 8, none, .fldA 0 (.t 3)⟩,
     ⟨some 9, none, .load false 1 (.t 8)⟩,
     ⟨some 10, none, .call 268 [.t 7, .t 9]⟩,
     ⟨some 11, none, .call 269 [.k (.int .i64 0), .t 10]⟩,
     ⟨some 5, none, .mv (.t 11)⟩])
   (.keep [2, 3, 5]
    (.seq
     (.ops [⟨some 12, none, .mv (.t 5)⟩,
       ⟨some 13, none, .fldA 1 (.t 2)⟩,
       ⟨some 14, none, .load false 1 (.t 13)⟩,
       ⟨some 15, none, .fldA 1 (.t 3)⟩,
       ⟨some 16, none, .load false 1 (.t 15)⟩,
       ⟨some 17, none, .call 268 [.t 14, .t 16]⟩,
       ⟨some 18, none, .call 269 [.t 12, .t 17]⟩,
       ⟨some 5, none, .mv (.t 18)⟩])
     (.keep [2, 3, 5]
      (.seq
       (.ops [⟨some 19, none, .mv (.t 5)⟩,
         ⟨some 20, none, .fldA 2 (.t 2)⟩,
         ⟨some 21, none, .load false 1 (.t 20)⟩,
         ⟨some 22, none, .fldA 2 (.t 3)⟩,
         ⟨some 23, none, .load false 1 (.t 22)⟩,
         ⟨some 24, none, .call 268 [.t 21, .t 23]⟩,
         ⟨some 25, none, .call 269 [.t 19, .t 24]⟩,
         ⟨some 4, none, .mv (.t 25)⟩])
       (.keep [4]
        .ret))))))) }
structure N253 (R : Env) : Prop where
  o253 : R.Fn 253 c253
  n268 : N268 R
  n269 : N269 R
/-- umbra.umbraref03.Two -/
def c254 : IFn := { np := 2, rs := [.cell 4 true 3], body :=
 (.seq
  (.ops [⟨some 2, none, .box 31 (.t 0)⟩,
    ⟨some 3, none, .box 31 (.t 1)⟩,
    ⟨some 4, none, .alloc 31 [.int .i64 0, .int .i64 0, .int .i64 0]⟩])
  (.seq
   (.draw [0, 1, 0, 4, 15, 0, 32, 0, 128, 511, 0, 1024, 0, 4096, 16383, 32767, 65535] [[2], [5], [3], [7], [6, 8], [2], [10], [3], [12], [11, 13], [2], [15], [3], [17], [16, 18], [9, 14, 19], [4, 20]] [⟨some 5, none, .fldA 0 (.t 2)⟩,
     ⟨some 6, none, .load false 1 (.t 5)⟩,
     ⟨some 7, none, .fldA 0 (.t 3)⟩,
     ⟨some 8, none, .load false 1 (.t 7)⟩,
     ⟨some 9, none, .call 269 [.t 6, .t 8]⟩,
     ⟨some 10, none, .fldA 1 (.t 2)⟩,
     ⟨some 11, none, .load false 1 (.t 10)⟩,
     ⟨some 12, none, .fldA 1 (.t 3)⟩,
     ⟨some 13, none, .load false 1 (.t 12)⟩,
     ⟨some 14, none, .call 269 [.t 11, .t 13]⟩,
     ⟨some 15, none, .fldA 2 (.t 2)⟩,
     ⟨some 16, none, .load false 1 (.t 15)⟩,
     ⟨some 17, none, .fldA 2 (.t 3)⟩,
     ⟨some 18, none, .load false 1 (.t 17)⟩,
     ⟨some 19, none, .call 269 [.t 16, .t 18]⟩,
     ⟨some 20, none, .build [.int .i64 0, .int .i64 0, .int .i64 0] [(0, 1, .t 9), (1, 1, .t 14), (2, 1, .t 19)]⟩,
     ⟨none, none, .store 3 (.t 4) (.t 20)⟩])
   (.keep [4]
    .ret))) }
structure N254 (R : Env) : Prop where
  o254 : R.Fn 254 c254
  n269 : N269 R
/-- umbra.umbraref03.size -/
def c271 : IFn := { np := 1, rs := [.t 2], body :=
 (.seq
  (.ops [⟨some 2, none, .mv (.k (.int .i64 0))⟩])
  (.seq
   (.seq
    (.ops [⟨some 3, none, .mv (.t 0)⟩,
      ⟨some 4, none, .bin .lss (.t 3) (.k (.int .i64 0))⟩])
    (.cond (.t 4)
     (.seq
      (.ops [⟨some 5, none, .mv (.t 0)⟩,
        ⟨some 6, none, .call 282 [.k (.int .i64 0), .t 5]⟩,
        ⟨some 2, none, .mv (.t 6)⟩])
      .ret)
     .skip))
   (.keep [0]
    (.seq
     (.ops [⟨some 7, none, .mv (.t 0)⟩,
       ⟨some 2, none, .mv (.t 7)⟩])
     .ret)))) }
structure N271 (R : Env) : Prop where
  o271 : R.Fn 271 c271
  n282 : N282 R
/-- umbra.umbraref03.Most -/
def c257 : IFn := { np := 1, rs := [.t 2], body :=
 (.seq
  (.ops [⟨some 1, none, .box 31 (.t 0)⟩,
    ⟨some 2, none, .mv (.k (.int .i64 0))⟩])
  (.seq
   (.ops [⟨some 4, none, .fldA 0 (.t 1)⟩,
     ⟨some 5, none, .load false 1 (.t 4)⟩,
     ⟨some 6, none, .call 271 [.t 5]⟩,
     ⟨some 3, none, .mv (.t 6)⟩])
   (.seq
    (.seq
     (.ops [⟨some 7, none, .fldA 1 (.t 1)⟩,
       ⟨some 8, none, .load false 1 (.t 7)⟩,
       ⟨some 9, none, .call 271 [.t 8]⟩,
       ⟨some 10, none, .mv (.t 3)⟩,
       ⟨some 11, none, .bin .gtr (.t 9) (.t 10)⟩])
     (.keep [1, 3, 11]
      (.cond (.t 11)
       (.ops [⟨some 12, none, .fldA 1 (.t 1)⟩,
         ⟨some 13, none, .load false 1 (.t 12)⟩,
         ⟨some 14, none, .call 271 [.t 13]⟩,
         ⟨some 3, none, .mv (.t 14)⟩])
       .skip)))
    (.keep [1, 3]
     (.seq
      (.seq
       (.ops [⟨some 15, none, .fldA 2 (.t 1)⟩,
         ⟨some 16, none, .load false 1 (.t 15)⟩,
         ⟨some 17, none, .call 271 [.t 16]⟩,
         ⟨some 18, none, .mv (.t 3)⟩,
         ⟨some 19, none, .bin .gtr (.t 17) (.t 18)⟩])
       (.keep [1, 3, 19]
        (.cond (.t 19)
         (.ops [⟨some 20, none, .fldA 2 (.t 1)⟩,
           ⟨some 21, none, .load false 1 (.t 20)⟩,
           ⟨some 22, none, .call 271 [.t 21]⟩,
           ⟨some 3, none, .mv (.t 22)⟩])
         .skip)))
      (.keep [3]
       (.seq
        (.ops [⟨some 23, none, .mv (.t 3)⟩,
          ⟨some 2, none, .mv (.t 23)⟩])
        .ret))))))) }
structure N257 (R : Env) : Prop where
  o257 : R.Fn 257 c257
  n271 : N271 R
/-- umbra.umbraref03.Of -/
def c259 : IFn := { np := 1, rs := [.cell 2 true 3], body :=
 (.seq
  (.ops [⟨some 1, none, .box 26 (.t 0)⟩,
    ⟨some 2, none, .alloc 31 [.int .i64 0, .int .i64 0, .int .i64 0]⟩])
  (.seq
   (.draw [0, 1, 3, 0, 8, 31, 0, 64, 255, 511, 1023] [[1], [3], [4], [1], [6], [7], [1], [9], [10], [5, 8, 11], [2, 12]] [⟨some 3, none, .fldA 0 (.t 1)⟩,
     ⟨some 4, none, .load false 1 (.t 3)⟩,
     ⟨some 5, none, .call 272 [.t 4]⟩,
     ⟨some 6, none, .fldA 1 (.t 1)⟩,
     ⟨some 7, none, .load false 1 (.t 6)⟩,
     ⟨some 8, none, .call 272 [.t 7]⟩,
     ⟨some 9, none, .fldA 2 (.t 1)⟩,
     ⟨some 10, none, .load false 1 (.t 9)⟩,
     ⟨some 11, none, .call 272 [.t 10]⟩,
     ⟨some 12, none, .build [.int .i64 0, .int .i64 0, .int .i64 0] [(0, 1, .t 5), (1, 1, .t 8), (2, 1, .t 11)]⟩,
     ⟨none, none, .store 3 (.t 2) (.t 12)⟩])
   (.keep [2]
    .ret))) }
structure N259 (R : Env) : Prop where
  o259 : R.Fn 259 c259
  n272 : N272 R
end Go.UM

/- The resolved code of package umbraref04, function by function; numbers are those of the register, the same for all programs. -/


namespace Go.UM
open Go.AM
/-- umbra.umbraref04.Same -/
def c222 : IFn := { np := 0, rs := [.cell 0 true 12], body :=
 (.seq
  (.ops [⟨some 0, none, .alloc 33 [.int .i64 0, .int .i64 0, .int .i64 0, .int .i64 0, .int .i64 0, .int .i64 0, .int .i64 0, .int .i64 0, .int .i64 0, .int .i64 0, .int .i64 0, .int .i64 0]⟩])
  (.seq
   (.ops [⟨some 2, none, .build [.int .i64 0, .int .i64 0, .int .i64 0, .int .i64 0, .int .i64 0, .int .i64 0, .int .i64 0, .int .i64 0, .int .i64 0, .int .i64 0, .int .i64 0, .int .i64 0] []⟩,
     ⟨some 1, none, .alloc 33 [.int .i64 0, .int .i64 0, .int .i64 0, .int .i64 0, .int .i64 0, .int .i64 0, .int .i64 0, .int .i64 0, .int .i64 0, .int .i64 0, .int .i64 0, .int .i64 0]⟩,
     ⟨none, none, .store 12 (.t 1) (.t 2)⟩])
   (.seq
    (.ops [⟨some 3, none, .fldA 0 (.t 1)⟩,
      ⟨some 4, none, .idxA 9 1 (.t 3) (.k (.int .i64 0))⟩,
      ⟨none, none, .store 1 (.t 4) (.k (.int .i64 4294967296))⟩,
      ⟨some 5, none, .fldA 0 (.t 1)⟩,
      ⟨some 6, none, .idxA 9 1 (.t 5) (.k (.int .i64 4))⟩,
      ⟨none, none, .store 1 (.t 6) (.k (.int .i64 4294967296))⟩,
      ⟨some 7, none, .fldA 0 (.t 1)⟩,
      ⟨some 8, none, .idxA 9 1 (.t 7) (.k (.int .i64 8))⟩,
      ⟨none, none, .store 1 (.t 8) (.k (.int .i64 4294967296))⟩])
    (.keep [0, 1]
     (.seq
      (.ops [⟨some 9, none, .load true 12 (.t 1)⟩,
        ⟨none, none, .store 12 (.t 0) (.t 9)⟩])
      .ret))))) }
structure N222 (R : Env) : Prop where
  o222 : R.Fn 222 c222
/-- umbra.umbraref04.Move -/
def c224 : IFn := { np := 1, rs := [.cell 2 true 12], body :=
 (.seq
  (.ops [⟨some 1, none, .box 31 (.t 0)⟩,
    ⟨some 2, none, .alloc 33 [.int .i64 0, .int .i64 0, .int .i64 0, .int .i64 0, .int .i64 0, .int .i64 0, .int .i64 0, .int .i64 0, .int .i64 0, .int .i64 0, .int .i64 0, .int .i64 0]⟩])
  (.seq
   (.ops [⟨some 4, none, .call 222 []⟩,
     ⟨some 3, none, .alloc 33 [.int .i64 0, .int .i64 0, .int .i64 0, .int .i64 0, .int .i64 0, .int .i64 0, .int .i64 0, .int .i64 0, .int .i64 0, .int .i64 0, .int .i64 0, .int .i64 0]⟩,
     ⟨none, none, .store 12 (.t 3) (.t 4)⟩])
   (.seq
    (.ops [⟨some 5, none, .load true 3 (.t 1)⟩,
      ⟨some 6, none, .fldA 9 (.t 3)⟩,
      ⟨none, none, .store 3 (.t 6) (.t 5)⟩])
    (.seq
     (.ops [⟨some 7, none, .load true 12 (.t 3)⟩,
       ⟨none, none, .store 12 (.t 2) (.t 7)⟩])
     .ret)))) }
structure N224 (R : Env) : Prop where
  o224 : R.Fn 224 c224
  n222 : N222 R
/-- umbra.umbraref04.Size -/
def c226 : IFn := { np := 1, rs := [.cell 2 true 12], body :=
 (.seq
  (.ops [⟨some 2, none, .alloc 33 [.int .i64 0, .int .i64 0, .int .i64 0, .int .i64 0, .int .i64 0, .int .i64 0, .int .i64 0, .int .i64 0, .int .i64 0, .int .i64 0, .int .i64 0, .int .i64 0]⟩])
  (.seq
   (.ops [⟨some 4, none, .call 222 []⟩,
     ⟨some 3, none, .alloc 33 [.int .i64 0, .int .i64 0, .int .i64 0, .int .i64 0, .int .i64 0, .int .i64 0, .int .i64 0, .int .i64 0, .int .i64 0, .int .i64 0, .int .i64 0, .int .i64 0]⟩,
     ⟨none, none, .store 12 (.t 3) (.t 4)⟩])
   (.seq
    (.seq
     (.ops [⟨some 5, none, .mv (.t 0)⟩,
       ⟨some 6, none, .lenS (.t 5)⟩,
       ⟨some 7, none, .bin .eql (.t 6) (.k (.int .i64 1))⟩,
       ⟨some 8, none, .mv (.t 7)⟩,
       ⟨some 9, some (8, false), .mv (.t 0)⟩,
       ⟨some 10, some (8, false), .lenS (.t 9)⟩,
       ⟨some 11, some (8, false), .bin .eql (.t 10) (.k (.int .i64 2))⟩,
       ⟨some 12, none, .pick (.t 8) (.k (.bool true)) (.t 11)⟩])
     (.keep [0, 2, 3, 12]
      (.cond (.t 12)
       (.draw [0, 1, 3, 0, 8, 24, 0, 64, 192, 0, 519, 1543, 0, 7743, 15935, 0, 65535, 131071] [[0], [13], [14], [0], [16], [17], [0], [19], [20], [3], [22], [23, 15], [3], [24], [25, 18], [3], [26], [27, 21]] [⟨some 13, none, .mv (.t 0)⟩,
         ⟨some 14, none, .idxS 1 (.t 13) (.k (.int .i64 0))⟩,
         ⟨some 15, none, .load false 1 (.t 14)⟩,
         ⟨some 16, none, .mv (.t 0)⟩,
         ⟨some 17, none, .idxS 1 (.t 16) (.k (.int .i64 0))⟩,
         ⟨some 18, none, .load false 1 (.t 17)⟩,
         ⟨some 19, none, .mv (.t 0)⟩,
         ⟨some 20, none, .idxS 1 (.t 19) (.k (.int .i64 0))⟩,
         ⟨some 21, none, .load false 1 (.t 20)⟩,
         ⟨some 22, none, .fldA 0 (.t 3)⟩,
         ⟨some 23, none, .idxA 9 1 (.t 22) (.k (.int .i64 0))⟩,
         ⟨none, none, .store 1 (.t 23) (.t 15)⟩,
         ⟨some 24, none, .fldA 0 (.t 3)⟩,
         ⟨some 25, none, .idxA 9 1 (.t 24) (.k (.int .i64 4))⟩,
         ⟨none, none, .store 1 (.t 25) (.t 18)⟩,
         ⟨some 26, none, .fldA 0 (.t 3)⟩,
         ⟨some 27, none, .idxA 9 1 (.t 26) (.k (.int .i64 8))⟩,
         ⟨none, none, .store 1 (.t 27) (.t 21)⟩])
       .skip)))
    (.keep [0, 2, 3]
     (.seq
      (.seq
       (.ops [⟨some 28, none, .mv (.t 0)⟩,
         ⟨some 29, none, .lenS (.t 28)⟩,
         ⟨some 30, none, .bin .gtr (.t 29) (.k (.int .i64 2))⟩])
       (.cond (.t 30)
        (.draw [0, 1, 3, 0, 8, 24, 0, 64, 192, 0, 519, 1543, 0, 7743, 15935, 0, 65535, 131071] [[0], [31], [32], [0], [34], [35], [0], [37], [38], [3], [40], [41, 33], [3], [42], [43, 36], [3], [44], [45, 39]] [⟨some 31, none, .mv (.t 0)⟩,
          ⟨some 32, none, .idxS 1 (.t 31) (.k (.int .i64 0))⟩,
          ⟨some 33, none, .load false 1 (.t 32)⟩,
          ⟨some 34, none, .mv (.t 0)⟩,
          ⟨some 35, none, .idxS 1 (.t 34) (.k (.int .i64 1))⟩,
          ⟨some 36, none, .load false 1 (.t 35)⟩,
          ⟨some 37, none, .mv (.t 0)⟩,
          ⟨some 38, none, .idxS 1 (.t 37) (.k (.int .i64 2))⟩,
          ⟨some 39, none, .load false 1 (.t 38)⟩,
          ⟨some 40, none, .fldA 0 (.t 3)⟩,
          ⟨some 41, none, .idxA 9 1 (.t 40) (.k (.int .i64 0))⟩,
          ⟨none, none, .store 1 (.t 41) (.t 33)⟩,
          ⟨some 42, none, .fldA 0 (.t 3)⟩,
          ⟨some 43, none, .idxA 9 1 (.t 42) (.k (.int .i64 4))⟩,
          ⟨none, none, .store 1 (.t 43) (.t 36)⟩,
          ⟨some 44, none, .fldA 0 (.t 3)⟩,
          ⟨some 45, none, .idxA 9 1 (.t 44) (.k (.int .i64 8))⟩,
          ⟨none, none, .store 1 (.t 45) (.t 39)⟩])
        .skip))
      (.keep [2, 3]
       (.seq
        (.ops [⟨some 46, none, .load true 12 (.t 3)⟩,
          ⟨none, none, .store 12 (.t 2) (.t 46)⟩])
        .ret))))))) }
structure N226 (R : Env) : Prop where
  o226 : R.Fn 226 c226
  n222 : N222 R
/-- umbra.umbraref04.Axes -/
def c228 : IFn := { np := 1, rs := [.cell 2 true 12], body :=
 (.seq
  (.ops [⟨some 2, none, .alloc 33 [.int .i64 0, .int .i64 0, .int .i64 0, .int .i64 0, .int .i64 0, .int .i64 0, .int .i64 0, .int .i64 0, .int .i64 0, .int .i64 0, .int .i64 0, .int .i64 0]⟩])
  (.seq
   (.ops [⟨some 5, none, .call 222 []⟩,
     ⟨some 3, none, .alloc 33 [.int .i64 0, .int .i64 0, .int .i64 0, .int .i64 0, .int .i64 0, .int .i64 0, .int .i64 0, .int .i64 0, .int .i64 0, .int .i64 0, .int .i64 0, .int .i64 0]⟩,
     ⟨none, none, .store 12 (.t 3) (.t 5)⟩])
   (.seq
    (.seq
     (.ops [⟨some 4, none, .mv (.k (.int .i64 0))⟩])
     (.keep [0, 2, 3, 4]
      (.block 0
       (.loop
        (.seq
         (.seq
          (.ops [⟨some 6, none, .mv (.t 4)⟩,
            ⟨some 7, none, .mv (.t 0)⟩,
            ⟨some 8, none, .lenS (.t 7)⟩,
            ⟨some 9, none, .bin .lss (.t 6) (.t 8)⟩,
            ⟨some 10, none, .mv (.t 9)⟩,
            ⟨some 11, some (10, true), .mv (.t 4)⟩,
            ⟨some 12, some (10, true), .bin .lss (.t 11) (.k (.int .i64 3))⟩,
            ⟨some 13, none, .pick (.t 10) (.t 12) (.k (.bool false))⟩])
          (.keep [0, 2, 3, 4, 13]
           (.cond (.t 13)
            .skip
            (.exit 0))))
         (.keep [0, 2, 3, 4]
          (.seq
           (.block 1
            (.seq
             (.ops [⟨some 16, none, .mv (.t 4)⟩,
               ⟨some 17, none, .mv (.t 0)⟩,
               ⟨some 18, none, .mv (.t 4)⟩,
               ⟨some 19, none, .idxS 3 (.t 17) (.t 18)⟩,
               ⟨some 20, none, .fldA 0 (.t 19)⟩,
               ⟨some 21, none, .load false 1 (.t 20)⟩,
               ⟨some 22, none, .fldA 0 (.t 3)⟩,
               ⟨some 23, none, .idxA 9 1 (.t 22) (.t 16)⟩,
               ⟨none, none, .store 1 (.t 23) (.t 21)⟩])
             (.keep [0, 2, 3, 4]
              (.seq
               (.ops [⟨some 24, none, .mv (.t 4)⟩,
                 ⟨some 25, none, .bin .add (.k (.int .i64 3)) (.t 24)⟩,
                 ⟨some 26, none, .mv (.t 0)⟩,
                 ⟨some 27, none, .mv (.t 4)⟩,
                 ⟨some 28, none, .idxS 3 (.t 26) (.t 27)⟩,
                 ⟨some 29, none, .fldA 1 (.t 28)⟩,
                 ⟨some 30, none, .load false 1 (.t 29)⟩,
                 ⟨some 31, none, .fldA 0 (.t 3)⟩,
                 ⟨some 32, none, .idxA 9 1 (.t 31) (.t 25)⟩,
                 ⟨none, none, .store 1 (.t 32) (.t 30)⟩])
               (.keep [0, 2, 3, 4]
                (.ops [⟨some 33, none, .mv (.t 4)⟩,
                  ⟨some 34, none, .bin .add (.k (.int .i64 6)) (.t 33)⟩,
                  ⟨some 35, none, .mv (.t 0)⟩,
                  ⟨some 36, none, .mv (.t 4)⟩,
                  ⟨some 37, none, .idxS 3 (.t 35) (.t 36)⟩,
                  ⟨some 38, none, .fldA 2 (.t 37)⟩,
                  ⟨some 39, none, .load false 1 (.t 38)⟩,
                  ⟨some 40, none, .fldA 0 (.t 3)⟩,
                  ⟨some 41, none, .idxA 9 1 (.t 40) (.t 34)⟩,
                  ⟨none, none, .store 1 (.t 41) (.t 39)⟩]))))))
           (.keep [0, 2, 3, 4]
            (.ops [⟨some 14, none, .mv (.t 4)⟩,
              ⟨some 15, none, .bin .add (.t 14) (.k (.int .i64 1))⟩,
              ⟨some 4, none, .mv (.t 15)⟩])))))))))
    (.keep [0, 2, 3]
     (.seq
      (.seq
       (.ops [⟨some 42, none, .mv (.t 0)⟩,
         ⟨some 43, none, .lenS (.t 42)⟩,
         ⟨some 44, none, .bin .gtr (.t 43) (.k (.int .i64 3))⟩])
       (.cond (.t 44)
        (.ops [⟨some 45, none, .mv (.t 0)⟩,
          ⟨some 46, none, .idxS 3 (.t 45) (.k (.int .i64 3))⟩,
          ⟨some 47, none, .load true 3 (.t 46)⟩,
          ⟨some 48, none, .fldA 9 (.t 3)⟩,
          ⟨none, none, .store 3 (.t 48) (.t 47)⟩])
        .skip))
      (.keep [2, 3]
       (.seq
        (.ops [⟨some 49, none, .load true 12 (.t 3)⟩,
          ⟨none, none, .store 12 (.t 2) (.t 49)⟩])
        .ret))))))) }
structure N228 (R : Env) : Prop where
  o228 : R.Fn 228 c228
  n222 : N222 R
/-- umbra.umbraref04.Turn -/
def c232 : IFn := { np := 2, rs := [.cell 4 true 3], body :=
 (.seq
  (.ops [⟨some 2, none, .box 33 (.t 0)⟩,
    ⟨some 3, none, .box 31 (.t 1)⟩,
    ⟨some 4, none, .alloc 31 [.int .i64 0, .int .i64 0, .int .i64 0]⟩])
  (.seq
   (.ops [⟨some 5, none, .mv (.k (.nils))⟩])
   (.seq
    (.seq
     (.ops [⟨some 6, none, .mv (.k (.int .i64 0))⟩])
     (.keep [2, 3, 4, 5, 6]
      (.block 0
       (.loop
        (.seq
         (.seq
          (.ops [⟨some 7, none, .mv (.t 6)⟩,
            ⟨some 8, none, .bin .lss (.t 7) (.k (.int .i64 3))⟩])
          (.cond (.t 8)
           .skip
           (.exit 0)))
         (.keep [2, 3, 4, 5, 6]
          (.seq
           (.block 1
            (.draw [0, 0, 2, 0, 14, 30, 0, 64, 192, 0, 960, 1984, 0, 4096, 12288, 0, 61440, 126976, 262142, 0, 1048574, 2097150, 4194303, 8388607] [[5], [6], [12], [2], [14, 13], [15], [6], [17], [18], [2], [20, 19], [21], [6], [23], [24], [2], [26, 25], [27], [16, 22, 28], [3], [29, 30], [31], [11, 32], [33]] [⟨some 11, none, .mv (.t 5)⟩,
              ⟨some 12, none, .mv (.t 6)⟩,
              ⟨some 13, none, .bin .mul (.k (.int .i64 3)) (.t 12)⟩,
              ⟨some 14, none, .fldA 0 (.t 2)⟩,
              ⟨some 15, none, .idxA 9 1 (.t 14) (.t 13)⟩,
              ⟨some 16, none, .load false 1 (.t 15)⟩,
              ⟨some 17, none, .mv (.t 6)⟩,
              ⟨some 18, none, .bin .mul (.k (.int .i64 3)) (.t 17)⟩,
              ⟨some 19, none, .bin .add (.t 18) (.k (.int .i64 1))⟩,
              ⟨some 20, none, .fldA 0 (.t 2)⟩,
              ⟨some 21, none, .idxA 9 1 (.t 20) (.t 19)⟩,
              ⟨some 22, none, .load false 1 (.t 21)⟩,
              ⟨some 23, none, .mv (.t 6)⟩,
              ⟨some 24, none, .bin .mul (.k (.int .i64 3)) (.t 23)⟩,
              ⟨some 25, none, .bin .add (.t 24) (.k (.int .i64 2))⟩,
              ⟨some 26, none, .fldA 0 (.t 2)⟩,
              ⟨some 27, none, .idxA 9 1 (.t 26) (.t 25)⟩,
              ⟨some 28, none, .load false 1 (.t 27)⟩,
              ⟨some 29, none, .build [.int .i64 0, .int .i64 0, .int .i64 0] [(0, 1, .t 16), (1, 1, .t 22), (2, 1, .t 28)]⟩,
              ⟨some 30, none, .load true 3 (.t 3)⟩,
              ⟨some 31, none, .call 253 [.t 29, .t 30]⟩,
              ⟨some 32, none, .bslice 32 1 1 [.int .i64 0] [(0, .t 31)]⟩,
              ⟨some 33, none, .app 32 1 (.t 11) (.t 32)⟩,
              ⟨some 5, none, .mv (.t 33)⟩]))
           (.keep [2, 3, 4, 5, 6]
            (.ops [⟨some 9, none, .mv (.t 6)⟩,
              ⟨some 10, none, .bin .add (.t 9) (.k (.int .i64 1))⟩,
              ⟨some 6, none, .mv (.t 10)⟩])))))))))
    (.keep [4, 5]
     (.seq
      (.draw [0, 1, 3, 0, 8, 24, 0, 64, 192, 511, 1023] [[5], [34], [35], [5], [37], [38], [5], [40], [41], [36, 39, 42], [4, 43]] [⟨some 34, none, .mv (.t 5)⟩,
        ⟨some 35, none, .idxS 1 (.t 34) (.k (.int .i64 0))⟩,
        ⟨some 36, none, .load false 1 (.t 35)⟩,
        ⟨some 37, none, .mv (.t 5)⟩,
        ⟨some 38, none, .idxS 1 (.t 37) (.k (.int .i64 1))⟩,
        ⟨some 39, none, .load false 1 (.t 38)⟩,
        ⟨some 40, none, .mv (.t 5)⟩,
        ⟨some 41, none, .idxS 1 (.t 40) (.k (.int .i64 2))⟩,
        ⟨some 42, none, .load false 1 (.t 41)⟩,
        ⟨some 43, none, .build [.int .i64 0, .int .i64 0, .int .i64 0] [(0, 1, .t 36), (1, 1, .t 39), (2, 1, .t 42)]⟩,
        ⟨none, none, .store 3 (.t 4) (.t 43)⟩])
      (.keep [4]
       .ret)))))) }
structure N232 (R : Env) : Prop where
  o232 : R.Fn 232 c232
  n253 : N253 R
/-- umbra.umbraref04.Apply -/
def c234 : IFn := { np := 2, rs := [.cell 4 true 3], body :=
 (.seq
  (.ops [⟨some 2, none, .box 33 (.t 0)⟩,
    ⟨some 3, none, .box 31 (.t 1)⟩,
    ⟨some 4, none, .alloc 31 [.int .i64 0, .int .i64 0, .int .i64 0]⟩])
  (.seq
   (.draw [0, 0, 3, 0, 8, 31, 63] [[2], [3], [5, 6], [2], [8], [7, 9], [4, 10]] [⟨some 5, none, .load true 12 (.t 2)⟩,
     ⟨some 6, none, .load true 3 (.t 3)⟩,
     ⟨some 7, none, .call 232 [.t 5, .t 6]⟩,
     ⟨some 8, none, .fldA 9 (.t 2)⟩,
     ⟨some 9, none, .load true 3 (.t 8)⟩,
     ⟨some 10, none, .call 254 [.t 7, .t 9]⟩,
     ⟨none, none, .store 3 (.t 4) (.t 10)⟩])
   (.keep [4]
    .ret))) }
structure N234 (R : Env) : Prop where
  o234 : R.Fn 234 c234
  n232 : N232 R
  n254 : N254 R
/-- umbra.umbraref04.Check -/
def c236 : IFn := { np := 1, rs := [.t 2], body :=
 (.seq
  (.ops [⟨some 1, none, .box 33 (.t 0)⟩,
    ⟨some 2, none, .mv (.k (.int .i64 0))⟩])
  (.seq
   (.seq
    (.ops [⟨some 3, none, .mv (.k (.int .i64 0))⟩])
    (.keep [1, 3]
     (.block 0
      (.loop
       (.seq
        (.seq
         (.ops [⟨some 4, none, .mv (.t 3)⟩,
           ⟨some 5, none, .bin .lss (.t 4) (.k (.int .i64 9))⟩])
         (.cond (.t 5)
          .skip
          (.exit 0)))
        (.keep [1, 3]
         (.seq
          (.block 1
           (.seq
            (.ops [⟨some 8, none, .mv (.t 3)⟩,
              ⟨some 9, none, .fldA 0 (.t 1)⟩,
              ⟨some 10, none, .idxA 9 1 (.t 9) (.t 8)⟩,
              ⟨some 11, none, .load false 1 (.t 10)⟩,
              ⟨some 12, none, .bin .gtr (.t 11) (.k (.int .i64 1099511627776))⟩,
              ⟨some 13, none, .mv (.t 12)⟩,
              ⟨some 14, some (13, false), .mv (.t 3)⟩,
              ⟨some 15, some (13, false), .fldA 0 (.t 1)⟩,
              ⟨some 16, some (13, false), .idxA 9 1 (.t 15) (.t 14)⟩,
              ⟨some 17, some (13, false), .load false 1 (.t 16)⟩,
              ⟨some 18, some (13, false), .bin .lss (.t 17) (.k (.int .i64 (-1099511627776)))⟩,
              ⟨some 19, none, .pick (.t 13) (.k (.bool true)) (.t 18)⟩])
            (.keep [1, 3, 19]
             (.cond (.t 19)
              (.seq
               (.ops [⟨some 2, none, .mv (.k (.int .i64 2))⟩])
               .ret)
              .skip))))
          (.keep [1, 3]
           (.ops [⟨some 6, none, .mv (.t 3)⟩,
             ⟨some 7, none, .bin .add (.t 6) (.k (.int .i64 1))⟩,
             ⟨some 3, none, .mv (.t 7)⟩])))))))))
   (.keep [1]
    (.seq
     (.seq
      (.ops [⟨some 20, none, .fldA 9 (.t 1)⟩,
        ⟨some 21, none, .load true 3 (.t 20)⟩,
        ⟨some 22, none, .call 257 [.t 21]⟩,
        ⟨some 23, none, .bin .gtr (.t 22) (.k (.int .i64 562949953421312))⟩])
      (.cond (.t 23)
       (.seq
        (.ops [⟨some 2, none, .mv (.k (.int .i64 2))⟩])
        .ret)
       .skip))
     (.keep []
      (.seq
       (.ops [⟨some 2, none, .mv (.k (.int .i64 0))⟩])
       .ret)))))) }
structure N236 (R : Env) : Prop where
  o236 : R.Fn 236 c236
  n257 : N257 R
/-- umbra.umbraref04.Then -/
def c239 : IFn := { np := 1, rs := [.cell 2 true 12], body :=
 (.seq
  (.ops [⟨some 2, none, .alloc 33 [.int .i64 0, .int .i64 0, .int .i64 0, .int .i64 0, .int .i64 0, .int .i64 0, .int .i64 0, .int .i64 0, .int .i64 0, .int .i64 0, .int .i64 0, .int .i64 0]⟩])
  (.seq
   (.seq
    (.ops [⟨some 7, none, .mv (.t 0)⟩,
      ⟨some 8, none, .lenS (.t 7)⟩,
      ⟨some 9, none, .bin .eql (.t 8) (.k (.int .i64 0))⟩])
    (.cond (.t 9)
     (.seq
      (.ops [⟨some 10, none, .call 222 []⟩,
        ⟨none, none, .store 12 (.t 2) (.t 10)⟩])
      .ret)
     .skip))
   (.keep [0, 2]
    (.seq
     (.ops [⟨some 11, none, .mv (.t 0)⟩,
       ⟨some 12, none, .idxS 12 (.t 11) (.k (.int .i64 0))⟩,
       ⟨some 13, none, .load true 12 (.t 12)⟩,
       ⟨some 3, none, .alloc 33 [.int .i64 0, .int .i64 0, .int .i64 0, .int .i64 0, .int .i64 0, .int .i64 0, .int .i64 0, .int .i64 0, .int .i64 0, .int .i64 0, .int .i64 0, .int .i64 0]⟩,
       ⟨none, none, .store 12 (.t 3) (.t 13)⟩])
     (.keep [0, 2, 3]
      (.seq
       (.seq
        (.ops [⟨some 4, none, .mv (.k (.int .i64 1))⟩])
        (.keep [0, 2, 3, 4]
         (.block 0
          (.loop
           (.seq
            (.seq
             (.ops [⟨some 14, none, .mv (.t 4)⟩,
               ⟨some 15, none, .mv (.t 0)⟩,
               ⟨some 16, none, .lenS (.t 15)⟩,
               ⟨some 17, none, .bin .lss (.t 14) (.t 16)⟩])
             (.cond (.t 17)
              .skip
              (.exit 0)))
            (.keep [0, 2, 3, 4]
             (.seq
              (.block 1
               (.seq
                (.ops [⟨some 5, none, .mv (.k (.nils))⟩])
                (.seq
                 (.seq
                  (.ops [⟨some 6, none, .mv (.k (.int .i64 0))⟩])
                  (.keep [0, 2, 3, 4, 5, 6]
                   (.block 2
                    (.loop
                     (.seq
                      (.seq
                       (.ops [⟨some 20, none, .mv (.t 6)⟩,
                         ⟨some 21, none, .bin .lss (.t 20) (.k (.int .i64 3))⟩])
                       (.cond (.t 21)
                        .skip
                        (.exit 2)))
                      (.keep [0, 2, 3, 4, 5, 6]
                       (.seq
                        (.block 3
                         (.draw [0, 0, 0, 6, 14, 0, 0, 96, 224, 0, 512, 0, 3584, 7680, 0, 16384, 0, 114688, 245760, 524256, 1048574, 2097150, 4194303, 8388607] [[5], [0], [4], [25, 26], [27], [6], [3], [30, 29], [31], [6], [33], [3], [35, 34], [36], [6], [38], [3], [40, 39], [41], [32, 37, 42], [28, 43], [44], [24, 45], [46]] [⟨some 24, none, .mv (.t 5)⟩,
                           ⟨some 25, none, .mv (.t 0)⟩,
                           ⟨some 26, none, .mv (.t 4)⟩,
                           ⟨some 27, none, .idxS 12 (.t 25) (.t 26)⟩,
                           ⟨some 28, none, .load true 12 (.t 27)⟩,
                           ⟨some 29, none, .mv (.t 6)⟩,
                           ⟨some 30, none, .fldA 0 (.t 3)⟩,
                           ⟨some 31, none, .idxA 9 1 (.t 30) (.t 29)⟩,
                           ⟨some 32, none, .load false 1 (.t 31)⟩,
                           ⟨some 33, none, .mv (.t 6)⟩,
                           ⟨some 34, none, .bin .add (.k (.int .i64 3)) (.t 33)⟩,
                           ⟨some 35, none, .fldA 0 (.t 3)⟩,
                           ⟨some 36, none, .idxA 9 1 (.t 35) (.t 34)⟩,
                           ⟨some 37, none, .load false 1 (.t 36)⟩,
                           ⟨some 38, none, .mv (.t 6)⟩,
                           ⟨some 39, none, .bin .add (.k (.int .i64 6)) (.t 38)⟩,
                           ⟨some 40, none, .fldA 0 (.t 3)⟩,
                           ⟨some 41, none, .idxA 9 1 (.t 40) (.t 39)⟩,
                           ⟨some 42, none, .load false 1 (.t 41)⟩,
                           ⟨some 43, none, .build [.int .i64 0, .int .i64 0, .int .i64 0] [(0, 1, .t 32), (1, 1, .t 37), (2, 1, .t 42)]⟩,
                           ⟨some 44, none, .call 232 [.t 28, .t 43]⟩,
                           ⟨some 45, none, .bslice 31 3 1 [.int .i64 0, .int .i64 0, .int .i64 0] [(0, .t 44)]⟩,
                           ⟨some 46, none, .app 31 3 (.t 24) (.t 45)⟩,
                           ⟨some 5, none, .mv (.t 46)⟩]))
                        (.keep [0, 2, 3, 4, 5, 6]
                         (.ops [⟨some 22, none, .mv (.t 6)⟩,
                           ⟨some 23, none, .bin .add (.t 22) (.k (.int .i64 1))⟩,
                           ⟨some 6, none, .mv (.t 23)⟩])))))))))
                 (.keep [0, 2, 3, 4, 5]
                  (.draw [0, 0, 0, 6, 14, 0, 32, 126, 254, 511, 1023, 2047] [[5], [0], [4], [48, 49], [50], [3], [52], [51, 53], [54], [47, 55], [56], [3, 57]] [⟨some 47, none, .mv (.t 5)⟩,
                    ⟨some 48, none, .mv (.t 0)⟩,
                    ⟨some 49, none, .mv (.t 4)⟩,
                    ⟨some 50, none, .idxS 12 (.t 48) (.t 49)⟩,
                    ⟨some 51, none, .load true 12 (.t 50)⟩,
                    ⟨some 52, none, .fldA 9 (.t 3)⟩,
                    ⟨some 53, none, .load true 3 (.t 52)⟩,
                    ⟨some 54, none, .call 234 [.t 51, .t 53]⟩,
                    ⟨some 55, none, .bslice 31 3 1 [.int .i64 0, .int .i64 0, .int .i64 0] [(0, .t 54)]⟩,
                    ⟨some 56, none, .app 31 3 (.t 47) (.t 55)⟩,
                    ⟨some 57, none, .call 228 [.t 56]⟩,
                    ⟨none, none, .store 12 (.t 3) (.t 57)⟩])))))
              (.keep [0, 2, 3, 4]
               (.ops [⟨some 18, none, .mv (.t 4)⟩,
                 ⟨some 19, none, .bin .add (.t 18) (.k (.int .i64 1))⟩,
                 ⟨some 4, none, .mv (.t 19)⟩])))))))))
       (.keep [2, 3]
        (.seq
         (.ops [⟨some 58, none, .load true 12 (.t 3)⟩,
           ⟨none, none, .store 12 (.t 2) (.t 58)⟩])
         .ret)))))))) }
structure N239 (R : Env) : Prop where
  o239 : R.Fn 239 c239
  n222 : N222 R
  n228 : N228 R
  n232 : N232 R
  n234 : N234 R
/-- umbra.umbraref04.Snap -/
def c244 : IFn := { np := 1, rs := [.cell 2 true 3, .t 3], body :=
 (.seq
  (.ops [⟨some 1, none, .box 31 (.t 0)⟩,
    ⟨some 2, none, .alloc 26 [.int .i64 0, .int .i64 0, .int .i64 0]⟩,
    ⟨some 3, none, .mv (.k (.int .i64 0))⟩])
  (.seq
   (.draw [0, 1, 3, 0, 8, 31, 0, 64, 255, 511, 0, 2047] [[1], [5], [6], [1], [8], [9], [1], [11], [12], [7, 10, 13], [], [4, 14]] [⟨some 5, none, .fldA 0 (.t 1)⟩,
     ⟨some 6, none, .load false 1 (.t 5)⟩,
     ⟨some 7, none, .call 261 [.t 6]⟩,
     ⟨some 8, none, .fldA 1 (.t 1)⟩,
     ⟨some 9, none, .load false 1 (.t 8)⟩,
     ⟨some 10, none, .call 261 [.t 9]⟩,
     ⟨some 11, none, .fldA 2 (.t 1)⟩,
     ⟨some 12, none, .load false 1 (.t 11)⟩,
     ⟨some 13, none, .call 261 [.t 12]⟩,
     ⟨some 14, none, .build [.int .i64 0, .int .i64 0, .int .i64 0] [(0, 1, .t 7), (1, 1, .t 10), (2, 1, .t 13)]⟩,
     ⟨some 4, none, .alloc 26 [.int .i64 0, .int .i64 0, .int .i64 0]⟩,
     ⟨none, none, .store 3 (.t 4) (.t 14)⟩])
   (.keep [2, 4]
    (.seq
     (.seq
      (.ops [⟨some 15, none, .fldA 0 (.t 4)⟩,
        ⟨some 16, none, .load false 1 (.t 15)⟩,
        ⟨some 17, none, .bin .gtr (.t 16) (.k (.int .i64 65536))⟩,
        ⟨some 18, none, .mv (.t 17)⟩,
        ⟨some 19, some (18, false), .fldA 0 (.t 4)⟩,
        ⟨some 20, some (18, false), .load false 1 (.t 19)⟩,
        ⟨some 21, some (18, false), .bin .lss (.t 20) (.k (.int .i64 (-65536)))⟩,
        ⟨some 22, none, .pick (.t 18) (.k (.bool true)) (.t 21)⟩,
        ⟨some 23, none, .mv (.t 22)⟩,
        ⟨some 24, some (23, false), .fldA 1 (.t 4)⟩,
        ⟨some 25, some (23, false), .load false 1 (.t 24)⟩,
        ⟨some 26, some (23, false), .bin .gtr (.t 25) (.k (.int .i64 65536))⟩,
        ⟨some 27, none, .pick (.t 23) (.k (.bool true)) (.t 26)⟩,
        ⟨some 28, none, .mv (.t 27)⟩,
        ⟨some 29, some (28, false), .fldA 1 (.t 4)⟩,
        ⟨some 30, some (28, false), .load false 1 (.t 29)⟩,
        ⟨some 31, some (28, false), .bin .lss (.t 30) (.k (.int .i64 (-65536)))⟩,
        ⟨some 32, none, .pick (.t 28) (.k (.bool true)) (.t 31)⟩,
        ⟨some 33, none, .mv (.t 32)⟩,
        ⟨some 34, some (33, false), .fldA 2 (.t 4)⟩,
        ⟨some 35, some (33, false), .load false 1 (.t 34)⟩,
        ⟨some 36, some (33, false), .bin .gtr (.t 35) (.k (.int .i64 65536))⟩,
        ⟨some 37, none, .pick (.t 33) (.k (.bool true)) (.t 36)⟩,
        ⟨some 38, none, .mv (.t 37)⟩,
        ⟨some 39, some (38, false), .fldA 2 (.t 4)⟩,
        ⟨some 40, some (38, false), .load false 1 (.t 39)⟩,
        ⟨some 41, some (38, false), .bin .lss (.t 40) (.k (.int .i64 (-65536)))⟩,
        ⟨some 42, none, .pick (.t 38) (.k (.bool true)) (.t 41)⟩])
      (.keep [2, 4, 42]
       (.cond (.t 42)
        (.seq
         (.ops [⟨some 43, none, .build [.int .i64 0, .int .i64 0, .int .i64 0] []⟩,
           ⟨none, none, .store 3 (.t 2) (.t 43)⟩,
           ⟨some 3, none, .mv (.k (.int .i64 8))⟩])
         .ret)
        .skip)))
     (.keep [2, 4]
      (.seq
       (.ops [⟨some 44, none, .load true 3 (.t 4)⟩,
         ⟨none, none, .store 3 (.t 2) (.t 44)⟩,
         ⟨some 3, none, .mv (.k (.int .i64 0))⟩])
       .ret)))))) }
structure N244 (R : Env) : Prop where
  o244 : R.Fn 244 c244
  n261 : N261 R
/-- umbra.umbraref04.Place -/
def c242 : IFn := { np := 2, rs := [.cell 4 true 3, .t 5], body :=
 (.seq
  (.ops [⟨some 2, none, .box 33 (.t 0)⟩,
    ⟨some 3, none, .box 26 (.t 1)⟩,
    ⟨some 4, none, .alloc 26 [.int .i64 0, .int .i64 0, .int .i64 0]⟩,
    ⟨some 5, none, .mv (.k (.int .i64 0))⟩])
  (.seq
   (.seq
    (.ops [⟨some 7, none, .load true 12 (.t 2)⟩,
      ⟨some 8, none, .call 236 [.t 7]⟩,
      ⟨some 6, none, .mv (.t 8)⟩])
    (.seq
     (.ops [⟨some 9, none, .mv (.t 6)⟩,
       ⟨some 10, none, .bin .neq (.t 9) (.k (.int .i64 0))⟩])
     (.cond (.t 10)
      (.seq
       (.ops [⟨some 11, none, .build [.int .i64 0, .int .i64 0, .int .i64 0] []⟩,
         ⟨some 12, none, .mv (.t 6)⟩,
         ⟨none, none, .store 3 (.t 4) (.t 11)⟩,
         ⟨some 5, none, .mv (.t 12)⟩])
       .ret)
      .skip)))
   (.keep [2, 3, 4]
    (.seq
     (.draw [0, 0, 2, 7, 15, 31, 31, 127, 255] [[2], [3], [14], [13, 15], [16], [17], [17], [4, 18], [19]] [⟨some 13, none, .load true 12 (.t 2)⟩,
       ⟨some 14, none, .load true 3 (.t 3)⟩,
       ⟨some 15, none, .call 259 [.t 14]⟩,
       ⟨some 16, none, .call 234 [.t 13, .t 15]⟩,
       ⟨some 17, none, .call 244 [.t 16]⟩,
       ⟨some 18, none, .ext (.t 17) 0⟩,
       ⟨some 19, none, .ext (.t 17) 1⟩,
       ⟨none, none, .store 3 (.t 4) (.t 18)⟩,
       ⟨some 5, none, .mv (.t 19)⟩])
     (.keep [4, 5]
      .ret))))) }
structure N242 (R : Env) : Prop where
  o242 : R.Fn 242 c242
  n234 : N234 R
  n236 : N236 R
  n244 : N244 R
  n259 : N259 R
end Go.UM

/- The resolved code of package umbralaw04, function by function; numbers are those of the register, the same for all programs. -/




namespace Go.UM
open Go.AM
/-- umbra.umbralaw04.works -/
def c229 : IFn := { np := 0, rs := [.t 0], body :=
 (.seq
  (.ops [⟨some 0, none, .mv (.k (.bool false))⟩])
  (.seq
   (.ops [⟨some 4, none, .bslice 32 1 1 [.int .i64 0] [(0, .k (.int .i64 8589934592))]⟩,
     ⟨some 5, none, .call 225 [.t 4]⟩,
     ⟨some 6, none, .build [.int .i64 0, .int .i64 0, .int .i64 0] [(0, 1, .k (.int .i64 4294967296))]⟩,
     ⟨some 7, none, .call 223 [.t 6]⟩,
     ⟨some 8, none, .bslice 33 12 2 [.int .i64 0, .int .i64 0, .int .i64 0, .int .i64 0, .int .i64 0, .int .i64 0, .int .i64 0, .int .i64 0, .int .i64 0, .int .i64 0, .int .i64 0, .int .i64 0] [(0, .t 5), (1, .t 7)]⟩,
     ⟨some 9, none, .call 238 [.t 8]⟩,
     ⟨some 10, none, .build [.int .i64 0, .int .i64 0, .int .i64 0] [(0, 1, .k (.int .i64 3)), (1, 1, .k (.int .i64 4)), (2, 1, .k (.int .i64 5))]⟩,
     ⟨some 11, none, .call 241 [.t 9, .t 10]⟩,
     ⟨some 3, none, .mv (.t 11)⟩,
     ⟨some 12, none, .ext (.t 3) 0⟩,
     ⟨some 13, none, .ext (.t 3) 1⟩,
     ⟨some 1, none, .alloc 26 [.int .i64 0, .int .i64 0, .int .i64 0]⟩,
     ⟨none, none, .store 3 (.t 1) (.t 12)⟩,
     ⟨some 2, none, .mv (.t 13)⟩])
   (.keep [1, 2]
    (.seq
     (.ops [⟨some 14, none, .mv (.t 2)⟩,
       ⟨some 15, none, .bin .eql (.t 14) (.k (.int .i64 0))⟩,
       ⟨some 16, none, .mv (.t 15)⟩,
       ⟨some 17, some (16, true), .load true 3 (.t 1)⟩,
       ⟨some 18, some (16, true), .build [.int .i64 0, .int .i64 0, .int .i64 0] [(0, 1, .k (.int .i64 7)), (1, 1, .k (.int .i64 8)), (2, 1, .k (.int .i64 10))]⟩,
       ⟨some 19, some (16, true), .eqa false [.i, .i, .i] (.t 17) (.t 18)⟩,
       ⟨some 20, none, .pick (.t 16) (.t 19) (.k (.bool false))⟩,
       ⟨some 0, none, .mv (.t 20)⟩])
     (.keep [0]
      .ret))))) }
structure N229 (R : Env) : Prop where
  o229 : R.Fn 229 c229
  n223 : N223 R
  n225 : N225 R
  n238 : N238 R
  n241 : N241 R
/-- umbra.umbralaw04.AffineMakes -/
def c220 : IFn := { np := 3, rs := [.t 6], body :=
 (.seq
  (.ops [⟨some 5, none, .box 31 (.t 2)⟩,
    ⟨some 6, none, .mv (.k (.bool false))⟩])
  (.seq
   (.draw [0, 0, 2, 6, 15, 0, 0, 64, 192, 480, 31, 2047] [[0], [0], [8], [9], [7, 10], [1], [1], [13], [14], [12, 15], [11], [16]] [⟨some 7, none, .mv (.t 0)⟩,
     ⟨some 8, none, .mv (.t 0)⟩,
     ⟨some 9, none, .lenS (.t 8)⟩,
     ⟨some 10, none, .mm false [.t 9, .k (.int .i64 6)]⟩,
     ⟨some 11, none, .slcS 32 1 (.t 7) none (some (.t 10)) none⟩,
     ⟨some 12, none, .mv (.t 1)⟩,
     ⟨some 13, none, .mv (.t 1)⟩,
     ⟨some 14, none, .lenS (.t 13)⟩,
     ⟨some 15, none, .mm false [.t 14, .k (.int .i64 6)]⟩,
     ⟨some 16, none, .slcS 31 3 (.t 12) none (some (.t 15)) none⟩,
     ⟨some 0, none, .mv (.t 11)⟩,
     ⟨some 1, none, .mv (.t 16)⟩])
   (.keep [0, 1, 5]
    (.seq
     (.draw [0, 1, 3, 7, 15, 31, 15, 127, 255, 511, 1023, 2047, 4095, 2047, 16383, 32767, 65535, 131071, 262143, 524287, 262143, 2097151, 4194303, 8388607, 16777215, 33554431, 67108863, 134217727] [[], [], [17, 18], [19], [5], [21], [5], [23], [22, 24], [20, 25], [26], [0], [28], [0], [30], [29, 31], [27, 32], [33], [1], [35], [1], [37], [36, 38], [34, 39], [40], [], [41, 42], [43]] [⟨some 17, none, .call 221 []⟩,
       ⟨some 18, none, .call 222 []⟩,
       ⟨some 19, none, .eqa false [.i, .i, .i, .i, .i, .i, .i, .i, .i, .i, .i, .i] (.t 17) (.t 18)⟩,
       ⟨some 20, none, .mv (.t 19)⟩,
       ⟨some 21, some (20, true), .load true 3 (.t 5)⟩,
       ⟨some 22, some (20, true), .call 223 [.t 21]⟩,
       ⟨some 23, some (20, true), .load true 3 (.t 5)⟩,
       ⟨some 24, some (20, true), .call 224 [.t 23]⟩,
       ⟨some 25, some (20, true), .eqa false [.i, .i, .i, .i, .i, .i, .i, .i, .i, .i, .i, .i] (.t 22) (.t 24)⟩,
       ⟨some 26, none, .pick (.t 20) (.t 25) (.k (.bool false))⟩,
       ⟨some 27, none, .mv (.t 26)⟩,
       ⟨some 28, some (27, true), .mv (.t 0)⟩,
       ⟨some 29, some (27, true), .call 225 [.t 28]⟩,
       ⟨some 30, some (27, true), .mv (.t 0)⟩,
       ⟨some 31, some (27, true), .call 226 [.t 30]⟩,
       ⟨some 32, some (27, true), .eqa false [.i, .i, .i, .i, .i, .i, .i, .i, .i, .i, .i, .i] (.t 29) (.t 31)⟩,
       ⟨some 33, none, .pick (.t 27) (.t 32) (.k (.bool false))⟩,
       ⟨some 34, none, .mv (.t 33)⟩,
       ⟨some 35, some (34, true), .mv (.t 1)⟩,
       ⟨some 36, some (34, true), .call 227 [.t 35]⟩,
       ⟨some 37, some (34, true), .mv (.t 1)⟩,
       ⟨some 38, some (34, true), .call 228 [.t 37]⟩,
       ⟨some 39, some (34, true), .eqa false [.i, .i, .i, .i, .i, .i, .i, .i, .i, .i, .i, .i] (.t 36) (.t 38)⟩,
       ⟨some 40, none, .pick (.t 34) (.t 39) (.k (.bool false))⟩,
       ⟨some 41, none, .mv (.t 40)⟩,
       ⟨some 42, some (41, true), .call 229 []⟩,
       ⟨some 43, none, .pick (.t 41) (.t 42) (.k (.bool false))⟩,
       ⟨some 6, none, .mv (.t 43)⟩])
     (.keep [6]
      .ret))))) }
structure N220 (R : Env) : Prop where
  o220 : R.Fn 220 c220
  n221 : N221 R
  n222 : N222 R
  n223 : N223 R
  n224 : N224 R
  n225 : N225 R
  n226 : N226 R
  n227 : N227 R
  n228 : N228 R
  n229 : N229 R
/-- umbra.umbralaw04.AffineApplies -/
def c230 : IFn := { np := 2, rs := [.t 4], body :=
 (.seq
  (.ops [⟨some 2, none, .box 33 (.t 0)⟩,
    ⟨some 3, none, .box 31 (.t 1)⟩,
    ⟨some 4, none, .mv (.k (.bool false))⟩])
  (.seq
   (.draw [0, 0, 3, 0, 0, 31, 63, 127, 255, 255, 1023, 255, 255, 8191, 16383, 32767, 65535, 131071, 262143, 131071, 1048575, 2097151, 4194303, 8388607, 16777215, 33554431, 67108863] [[2], [3], [5, 6], [2], [3], [8, 9], [7, 10], [11], [2], [3], [13, 14], [2], [3], [16, 17], [15, 18], [12, 19], [20], [2], [22], [2], [24], [23, 25], [21, 26], [27], [], [28, 29], [30]] [⟨some 5, none, .load true 12 (.t 2)⟩,
     ⟨some 6, none, .load true 3 (.t 3)⟩,
     ⟨some 7, none, .call 231 [.t 5, .t 6]⟩,
     ⟨some 8, none, .load true 12 (.t 2)⟩,
     ⟨some 9, none, .load true 3 (.t 3)⟩,
     ⟨some 10, none, .call 232 [.t 8, .t 9]⟩,
     ⟨some 11, none, .eqa false [.i, .i, .i] (.t 7) (.t 10)⟩,
     ⟨some 12, none, .mv (.t 11)⟩,
     ⟨some 13, some (12, true), .load true 12 (.t 2)⟩,
     ⟨some 14, some (12, true), .load true 3 (.t 3)⟩,
     ⟨some 15, some (12, true), .call 233 [.t 13, .t 14]⟩,
     ⟨some 16, some (12, true), .load true 12 (.t 2)⟩,
     ⟨some 17, some (12, true), .load true 3 (.t 3)⟩,
     ⟨some 18, some (12, true), .call 234 [.t 16, .t 17]⟩,
     ⟨some 19, some (12, true), .eqa false [.i, .i, .i] (.t 15) (.t 18)⟩,
     ⟨some 20, none, .pick (.t 12) (.t 19) (.k (.bool false))⟩,
     ⟨some 21, none, .mv (.t 20)⟩,
     ⟨some 22, some (21, true), .load true 12 (.t 2)⟩,
     ⟨some 23, some (21, true), .call 235 [.t 22]⟩,
     ⟨some 24, some (21, true), .load true 12 (.t 2)⟩,
     ⟨some 25, some (21, true), .call 236 [.t 24]⟩,
     ⟨some 26, some (21, true), .bin .eql (.t 23) (.t 25)⟩,
     ⟨some 27, none, .pick (.t 21) (.t 26) (.k (.bool false))⟩,
     ⟨some 28, none, .mv (.t 27)⟩,
     ⟨some 29, some (28, true), .call 229 []⟩,
     ⟨some 30, none, .pick (.t 28) (.t 29) (.k (.bool false))⟩,
     ⟨some 4, none, .mv (.t 30)⟩])
   (.keep [4]
    .ret))) }
structure N230 (R : Env) : Prop where
  o230 : R.Fn 230 c230
  n229 : N229 R
  n231 : N231 R
  n232 : N232 R
  n233 : N233 R
  n234 : N234 R
  n235 : N235 R
  n236 : N236 R
/-- umbra.umbralaw04.AffineThen -/
def c237 : IFn := { np := 1, rs := [.t 2], body :=
 (.seq
  (.ops [⟨some 2, none, .mv (.k (.bool false))⟩])
  (.seq
   (.ops [⟨some 3, none, .mv (.t 0)⟩,
     ⟨some 4, none, .mv (.t 0)⟩,
     ⟨some 5, none, .lenS (.t 4)⟩,
     ⟨some 6, none, .mm false [.t 5, .k (.int .i64 5)]⟩,
     ⟨some 7, none, .slcS 33 12 (.t 3) none (some (.t 6)) none⟩,
     ⟨some 0, none, .mv (.t 7)⟩])
   (.keep [0]
    (.seq
     (.ops [⟨some 8, none, .mv (.t 0)⟩,
       ⟨some 9, none, .call 238 [.t 8]⟩,
       ⟨some 10, none, .mv (.t 0)⟩,
       ⟨some 11, none, .call 239 [.t 10]⟩,
       ⟨some 12, none, .eqa false [.i, .i, .i, .i, .i, .i, .i, .i, .i, .i, .i, .i] (.t 9) (.t 11)⟩,
       ⟨some 13, none, .mv (.t 12)⟩,
       ⟨some 14, some (13, true), .call 229 []⟩,
       ⟨some 15, none, .pick (.t 13) (.t 14) (.k (.bool false))⟩,
       ⟨some 2, none, .mv (.t 15)⟩])
     (.keep [2]
      .ret))))) }
structure N237 (R : Env) : Prop where
  o237 : R.Fn 237 c237
  n229 : N229 R
  n238 : N238 R
  n239 : N239 R
/-- umbra.umbralaw04.AffinePlaces -/
def c240 : IFn := { np := 3, rs := [.t 6], body :=
 (.seq
  (.ops [⟨some 3, none, .box 33 (.t 0)⟩,
    ⟨some 4, none, .box 26 (.t 1)⟩,
    ⟨some 5, none, .box 31 (.t 2)⟩,
    ⟨some 6, none, .mv (.k (.bool false))⟩])
  (.seq
   (.ops [⟨some 16, none, .load true 12 (.t 3)⟩,
     ⟨some 17, none, .load true 3 (.t 4)⟩,
     ⟨some 18, none, .call 241 [.t 16, .t 17]⟩,
     ⟨some 15, none, .mv (.t 18)⟩,
     ⟨some 19, none, .ext (.t 15) 0⟩,
     ⟨some 20, none, .ext (.t 15) 1⟩,
     ⟨some 7, none, .alloc 26 [.int .i64 0, .int .i64 0, .int .i64 0]⟩,
     ⟨none, none, .store 3 (.t 7) (.t 19)⟩,
     ⟨some 8, none, .mv (.t 20)⟩])
   (.keep [3, 4, 5, 7, 8]
    (.seq
     (.ops [⟨some 22, none, .load true 12 (.t 3)⟩,
       ⟨some 23, none, .load true 3 (.t 4)⟩,
       ⟨some 24, none, .call 242 [.t 22, .t 23]⟩,
       ⟨some 21, none, .mv (.t 24)⟩,
       ⟨some 25, none, .ext (.t 21) 0⟩,
       ⟨some 26, none, .ext (.t 21) 1⟩,
       ⟨some 9, none, .alloc 26 [.int .i64 0, .int .i64 0, .int .i64 0]⟩,
       ⟨none, none, .store 3 (.t 9) (.t 25)⟩,
       ⟨some 10, none, .mv (.t 26)⟩])
     (.keep [5, 7, 8, 9, 10]
      (.seq
       (.ops [⟨some 28, none, .load true 3 (.t 5)⟩,
         ⟨some 29, none, .call 243 [.t 28]⟩,
         ⟨some 27, none, .mv (.t 29)⟩,
         ⟨some 30, none, .ext (.t 27) 0⟩,
         ⟨some 31, none, .ext (.t 27) 1⟩,
         ⟨some 11, none, .alloc 26 [.int .i64 0, .int .i64 0, .int .i64 0]⟩,
         ⟨none, none, .store 3 (.t 11) (.t 30)⟩,
         ⟨some 12, none, .mv (.t 31)⟩])
       (.keep [5, 7, 8, 9, 10, 11, 12]
        (.seq
         (.ops [⟨some 33, none, .load true 3 (.t 5)⟩,
           ⟨some 34, none, .call 244 [.t 33]⟩,
           ⟨some 32, none, .mv (.t 34)⟩,
           ⟨some 35, none, .ext (.t 32) 0⟩,
           ⟨some 36, none, .ext (.t 32) 1⟩,
           ⟨some 13, none, .alloc 26 [.int .i64 0, .int .i64 0, .int .i64 0]⟩,
           ⟨none, none, .store 3 (.t 13) (.t 35)⟩,
           ⟨some 14, none, .mv (.t 36)⟩])
         (.keep [7, 8, 9, 10, 11, 12, 13, 14]
          (.seq
           (.ops [⟨some 37, none, .load true 3 (.t 7)⟩,
             ⟨some 38, none, .load true 3 (.t 9)⟩,
             ⟨some 39, none, .eqa false [.i, .i, .i] (.t 37) (.t 38)⟩,
             ⟨some 40, none, .mv (.t 39)⟩,
             ⟨some 41, some (40, true), .mv (.t 8)⟩,
             ⟨some 42, some (40, true), .mv (.t 10)⟩,
             ⟨some 43, some (40, true), .bin .eql (.t 41) (.t 42)⟩,
             ⟨some 44, none, .pick (.t 40) (.t 43) (.k (.bool false))⟩,
             ⟨some 45, none, .mv (.t 44)⟩,
             ⟨some 46, some (45, true), .load true 3 (.t 11)⟩,
             ⟨some 47, some (45, true), .load true 3 (.t 13)⟩,
             ⟨some 48, some (45, true), .eqa false [.i, .i, .i] (.t 46) (.t 47)⟩,
             ⟨some 49, none, .pick (.t 45) (.t 48) (.k (.bool false))⟩,
             ⟨some 50, none, .mv (.t 49)⟩,
             ⟨some 51, some (50, true), .mv (.t 12)⟩,
             ⟨some 52, some (50, true), .mv (.t 14)⟩,
             ⟨some 53, some (50, true), .bin .eql (.t 51) (.t 52)⟩,
             ⟨some 54, none, .pick (.t 50) (.t 53) (.k (.bool false))⟩,
             ⟨some 55, none, .mv (.t 54)⟩,
             ⟨some 56, some (55, true), .call 229 []⟩,
             ⟨some 57, none, .pick (.t 55) (.t 56) (.k (.bool false))⟩,
             ⟨some 6, none, .mv (.t 57)⟩])
           (.keep [6]
            .ret))))))))))) }
structure N240 (R : Env) : Prop where
  o240 : R.Fn 240 c240
  n229 : N229 R
  n241 : N241 R
  n242 : N242 R
  n243 : N243 R
  n244 : N244 R
/-- umbra.umbralaw04.AffineSame -/
def c245 : IFn := { np := 2, rs := [.t 4], body :=
 (.seq
  (.ops [⟨some 2, none, .box 33 (.t 0)⟩,
    ⟨some 3, none, .box 31 (.t 1)⟩,
    ⟨some 4, none, .mv (.k (.bool false))⟩])
  (.seq
   (.seq
    (.draw [0, 0, 3, 0, 15, 31, 63, 63, 255, 511, 63, 2047, 4095, 8191, 16383, 16383, 65535, 131071, 16383, 524287, 1048575, 2097151, 4194303, 8388607, 16777215, 33554431] [[], [3], [5, 6], [3], [7, 8], [9], [], [2], [11, 12], [13], [2], [14, 15], [10, 16], [17], [2], [], [19, 20], [21], [2], [22, 23], [18, 24], [25], [], [], [27, 28], [26, 29]] [⟨some 5, none, .call 221 []⟩,
      ⟨some 6, none, .load true 3 (.t 3)⟩,
      ⟨some 7, none, .call 233 [.t 5, .t 6]⟩,
      ⟨some 8, none, .load true 3 (.t 3)⟩,
      ⟨some 9, none, .eqa true [.i, .i, .i] (.t 7) (.t 8)⟩,
      ⟨some 10, none, .mv (.t 9)⟩,
      ⟨some 11, some (10, false), .call 221 []⟩,
      ⟨some 12, some (10, false), .load true 12 (.t 2)⟩,
      ⟨some 13, some (10, false), .bslice 33 12 2 [.int .i64 0, .int .i64 0, .int .i64 0, .int .i64 0, .int .i64 0, .int .i64 0, .int .i64 0, .int .i64 0, .int .i64 0, .int .i64 0, .int .i64 0, .int .i64 0] [(0, .t 11), (1, .t 12)]⟩,
      ⟨some 14, some (10, false), .call 238 [.t 13]⟩,
      ⟨some 15, some (10, false), .load true 12 (.t 2)⟩,
      ⟨some 16, some (10, false), .eqa true [.i, .i, .i, .i, .i, .i, .i, .i, .i, .i, .i, .i] (.t 14) (.t 15)⟩,
      ⟨some 17, none, .pick (.t 10) (.k (.bool true)) (.t 16)⟩,
      ⟨some 18, none, .mv (.t 17)⟩,
      ⟨some 19, some (18, false), .load true 12 (.t 2)⟩,
      ⟨some 20, some (18, false), .call 221 []⟩,
      ⟨some 21, some (18, false), .bslice 33 12 2 [.int .i64 0, .int .i64 0, .int .i64 0, .int .i64 0, .int .i64 0, .int .i64 0, .int .i64 0, .int .i64 0, .int .i64 0, .int .i64 0, .int .i64 0, .int .i64 0] [(0, .t 19), (1, .t 20)]⟩,
      ⟨some 22, some (18, false), .call 238 [.t 21]⟩,
      ⟨some 23, some (18, false), .load true 12 (.t 2)⟩,
      ⟨some 24, some (18, false), .eqa true [.i, .i, .i, .i, .i, .i, .i, .i, .i, .i, .i, .i] (.t 22) (.t 23)⟩,
      ⟨some 25, none, .pick (.t 18) (.k (.bool true)) (.t 24)⟩,
      ⟨some 26, none, .mv (.t 25)⟩,
      ⟨some 27, some (26, false), .call 238 [.k (.nils)]⟩,
      ⟨some 28, some (26, false), .call 221 []⟩,
      ⟨some 29, some (26, false), .eqa true [.i, .i, .i, .i, .i, .i, .i, .i, .i, .i, .i, .i] (.t 27) (.t 28)⟩,
      ⟨some 30, none, .pick (.t 26) (.k (.bool true)) (.t 29)⟩])
    (.keep [2, 3, 30]
     (.cond (.t 30)
      (.seq
       (.ops [⟨some 4, none, .mv (.k (.bool false))⟩])
       .ret)
      .skip)))
   (.keep [2, 3]
    (.seq
     (.draw [0, 1, 3, 0, 15, 0, 0, 64, 224, 511, 1023, 2047, 4095, 8191, 16383, 4095, 65535, 4095, 262143, 524287, 1048575, 2097151, 4194303, 8388607] [[2], [31], [32], [3], [33, 34], [3], [2], [37], [36, 38], [39], [35, 40], [41], [2], [43], [44], [3], [45, 46], [3], [47, 48], [42, 49], [50], [], [51, 52], [53]] [⟨some 31, none, .fldA 9 (.t 2)⟩,
       ⟨some 32, none, .load true 3 (.t 31)⟩,
       ⟨some 33, none, .call 223 [.t 32]⟩,
       ⟨some 34, none, .load true 3 (.t 3)⟩,
       ⟨some 35, none, .call 233 [.t 33, .t 34]⟩,
       ⟨some 36, none, .load true 3 (.t 3)⟩,
       ⟨some 37, none, .fldA 9 (.t 2)⟩,
       ⟨some 38, none, .load true 3 (.t 37)⟩,
       ⟨some 39, none, .bslice 31 3 2 [.int .i64 0, .int .i64 0, .int .i64 0] [(0, .t 36), (1, .t 38)]⟩,
       ⟨some 40, none, .call 246 [.t 39]⟩,
       ⟨some 41, none, .eqa false [.i, .i, .i] (.t 35) (.t 40)⟩,
       ⟨some 42, none, .mv (.t 41)⟩,
       ⟨some 43, some (42, true), .fldA 9 (.t 2)⟩,
       ⟨some 44, some (42, true), .load true 3 (.t 43)⟩,
       ⟨some 45, some (42, true), .call 223 [.t 44]⟩,
       ⟨some 46, some (42, true), .load true 3 (.t 3)⟩,
       ⟨some 47, some (42, true), .call 231 [.t 45, .t 46]⟩,
       ⟨some 48, some (42, true), .load true 3 (.t 3)⟩,
       ⟨some 49, some (42, true), .eqa false [.i, .i, .i] (.t 47) (.t 48)⟩,
       ⟨some 50, none, .pick (.t 42) (.t 49) (.k (.bool false))⟩,
       ⟨some 51, none, .mv (.t 50)⟩,
       ⟨some 52, some (51, true), .call 229 []⟩,
       ⟨some 53, none, .pick (.t 51) (.t 52) (.k (.bool false))⟩,
       ⟨some 4, none, .mv (.t 53)⟩])
     (.keep [4]
      .ret))))) }
structure N245 (R : Env) : Prop where
  o245 : R.Fn 245 c245
  n221 : N221 R
  n223 : N223 R
  n229 : N229 R
  n231 : N231 R
  n233 : N233 R
  n238 : N238 R
  n246 : N246 R
/-- umbra.umbralaw04.AffineWhole -/
def c247 : IFn := { np := 3, rs := [.t 6], body :=
 (.seq
  (.ops [⟨some 3, none, .box 34 (.t 0)⟩,
    ⟨some 4, none, .box 35 (.t 1)⟩,
    ⟨some 5, none, .box 36 (.t 2)⟩,
    ⟨some 6, none, .mv (.k (.bool false))⟩])
  (.seq
   (.ops [⟨some 7, none, .alloc 33 [.int .i64 0, .int .i64 0, .int .i64 0, .int .i64 0, .int .i64 0, .int .i64 0, .int .i64 0, .int .i64 0, .int .i64 0, .int .i64 0, .int .i64 0, .int .i64 0]⟩])
   (.seq
    (.seq
     (.ops [⟨some 15, none, .load true 9 (.t 3)⟩,
       ⟨some 16, none, .mv (.k (.int .i64 0))⟩])
     (.keep [3, 4, 5, 7, 15, 16]
      (.block 0
       (.loop
        (.seq
         (.ops [⟨some 17, none, .bin .lss (.t 16) (.k (.int .i64 9))⟩])
         (.seq
          (.cond (.t 17)
           .skip
           (.exit 0))
          (.keep [3, 4, 5, 7, 15, 16]
           (.seq
            (.block 1
             (.seq
              (.ops [⟨some 18, none, .mv (.t 16)⟩,
                ⟨some 19, none, .idxV false 9 1 (.t 15) (.t 16)⟩,
                ⟨some 8, none, .mv (.t 18)⟩,
                ⟨some 9, none, .mv (.t 19)⟩])
              (.ops [⟨some 20, none, .mv (.t 8)⟩,
                ⟨some 21, none, .mv (.t 9)⟩,
                ⟨some 22, none, .conv .i64 (.t 21)⟩,
                ⟨some 23, none, .call 248 [.t 22]⟩,
                ⟨some 24, none, .fldA 0 (.t 7)⟩,
                ⟨some 25, none, .idxA 9 1 (.t 24) (.t 20)⟩,
                ⟨none, none, .store 1 (.t 25) (.t 23)⟩])))
            (.keep [3, 4, 5, 7, 15, 16]
             (.ops [⟨some 26, none, .bin .add (.t 16) (.k (.int .i64 1))⟩,
               ⟨some 16, none, .mv (.t 26)⟩]))))))))))
    (.keep [3, 4, 5, 7]
     (.seq
      (.ops [⟨some 27, none, .idxA 3 1 (.t 4) (.k (.int .i64 0))⟩,
        ⟨some 28, none, .load false 1 (.t 27)⟩,
        ⟨some 29, none, .conv .i64 (.t 28)⟩,
        ⟨some 30, none, .idxA 3 1 (.t 4) (.k (.int .i64 1))⟩,
        ⟨some 31, none, .load false 1 (.t 30)⟩,
        ⟨some 32, none, .conv .i64 (.t 31)⟩,
        ⟨some 33, none, .idxA 3 1 (.t 4) (.k (.int .i64 2))⟩,
        ⟨some 34, none, .load false 1 (.t 33)⟩,
        ⟨some 35, none, .conv .i64 (.t 34)⟩,
        ⟨some 36, none, .build [.int .i64 0, .int .i64 0, .int .i64 0] [(0, 1, .t 29), (1, 1, .t 32), (2, 1, .t 35)]⟩,
        ⟨some 37, none, .call 249 [.t 36]⟩,
        ⟨some 38, none, .fldA 9 (.t 7)⟩,
        ⟨none, none, .store 3 (.t 38) (.t 37)⟩])
      (.keep [3, 4, 5, 7]
       (.seq
        (.ops [⟨some 40, none, .load true 12 (.t 7)⟩,
          ⟨some 41, none, .idxA 3 1 (.t 5) (.k (.int .i64 0))⟩,
          ⟨some 42, none, .load false 1 (.t 41)⟩,
          ⟨some 43, none, .conv .i64 (.t 42)⟩,
          ⟨some 44, none, .idxA 3 1 (.t 5) (.k (.int .i64 1))⟩,
          ⟨some 45, none, .load false 1 (.t 44)⟩,
          ⟨some 46, none, .conv .i64 (.t 45)⟩,
          ⟨some 47, none, .idxA 3 1 (.t 5) (.k (.int .i64 2))⟩,
          ⟨some 48, none, .load false 1 (.t 47)⟩,
          ⟨some 49, none, .conv .i64 (.t 48)⟩,
          ⟨some 50, none, .build [.int .i64 0, .int .i64 0, .int .i64 0] [(0, 1, .t 43), (1, 1, .t 46), (2, 1, .t 49)]⟩,
          ⟨some 51, none, .call 241 [.t 40, .t 50]⟩,
          ⟨some 39, none, .mv (.t 51)⟩,
          ⟨some 52, none, .ext (.t 39) 0⟩,
          ⟨some 53, none, .ext (.t 39) 1⟩,
          ⟨some 10, none, .alloc 26 [.int .i64 0, .int .i64 0, .int .i64 0]⟩,
          ⟨none, none, .store 3 (.t 10) (.t 52)⟩,
          ⟨some 11, none, .mv (.t 53)⟩])
        (.keep [3, 4, 5, 10, 11]
         (.seq
          (.ops [⟨some 54, none, .build [.int .i64 0, .int .i64 0, .int .i64 0] []⟩,
            ⟨some 12, none, .alloc 13 [.int .i64 0, .int .i64 0, .int .i64 0]⟩,
            ⟨none, none, .store 3 (.t 12) (.t 54)⟩])
          (.seq
           (.ops [⟨some 13, none, .mv (.k (.bool false))⟩])
           (.seq
            (.seq
             (.ops [⟨some 55, none, .mv (.k (.int .i64 0))⟩])
             (.keep [3, 4, 5, 10, 11, 12, 13, 55]
              (.block 2
               (.loop
                (.seq
                 (.ops [⟨some 56, none, .bin .lss (.t 55) (.k (.int .i64 3))⟩])
                 (.seq
                  (.cond (.t 56)
                   .skip
                   (.exit 2))
                  (.keep [3, 4, 5, 10, 11, 12, 13, 55]
                   (.seq
                    (.block 3
                     (.seq
                      (.ops [⟨some 57, none, .mv (.t 55)⟩,
                        ⟨some 14, none, .mv (.t 57)⟩])
                      (.seq
                       (.draw [0, 0, 2, 6, 14, 30, 0, 64, 192, 510, 0, 1024, 3072, 7168, 15360, 31744, 0, 65536, 196608, 523264, 1048574, 0, 2097152, 6291456, 14680064, 31457280, 65011712, 0, 134217728, 402653184, 1071644672, 2147483646, 0, 4294967296, 12884901888, 30064771072, 68719476734, 137438953471, 274877906943] [[14], [14], [59], [3, 60], [61], [62], [5], [64], [65], [63, 66], [14], [68], [69], [3, 70], [71], [72], [5], [74], [75], [73, 76], [67, 77], [14], [79], [80], [3, 81], [82], [83], [5], [85], [86], [84, 87], [78, 88], [14], [4, 90], [91], [92], [89, 93], [12, 58], [95, 94]] [⟨some 58, none, .mv (.t 14)⟩,
                         ⟨some 59, none, .mv (.t 14)⟩,
                         ⟨some 60, none, .bin .mul (.k (.int .i64 3)) (.t 59)⟩,
                         ⟨some 61, none, .idxA 9 1 (.t 3) (.t 60)⟩,
                         ⟨some 62, none, .load false 1 (.t 61)⟩,
                         ⟨some 63, none, .conv .i64 (.t 62)⟩,
                         ⟨some 64, none, .idxA 3 1 (.t 5) (.k (.int .i64 0))⟩,
                         ⟨some 65, none, .load false 1 (.t 64)⟩,
                         ⟨some 66, none, .conv .i64 (.t 65)⟩,
                         ⟨some 67, none, .bin .mul (.t 63) (.t 66)⟩,
                         ⟨some 68, none, .mv (.t 14)⟩,
                         ⟨some 69, none, .bin .mul (.k (.int .i64 3)) (.t 68)⟩,
                         ⟨some 70, none, .bin .add (.t 69) (.k (.int .i64 1))⟩,
                         ⟨some 71, none, .idxA 9 1 (.t 3) (.t 70)⟩,
                         ⟨some 72, none, .load false 1 (.t 71)⟩,
                         ⟨some 73, none, .conv .i64 (.t 72)⟩,
                         ⟨some 74, none, .idxA 3 1 (.t 5) (.k (.int .i64 1))⟩,
                         ⟨some 75, none, .load false 1 (.t 74)⟩,
                         ⟨some 76, none, .conv .i64 (.t 75)⟩,
                         ⟨some 77, none, .bin .mul (.t 73) (.t 76)⟩,
                         ⟨some 78, none, .bin .add (.t 67) (.t 77)⟩,
                         ⟨some 79, none, .mv (.t 14)⟩,
                         ⟨some 80, none, .bin .mul (.k (.int .i64 3)) (.t 79)⟩,
                         ⟨some 81, none, .bin .add (.t 80) (.k (.int .i64 2))⟩,
                         ⟨some 82, none, .idxA 9 1 (.t 3) (.t 81)⟩,
                         ⟨some 83, none, .load false 1 (.t 82)⟩,
                         ⟨some 84, none, .conv .i64 (.t 83)⟩,
                         ⟨some 85, none, .idxA 3 1 (.t 5) (.k (.int .i64 2))⟩,
                         ⟨some 86, none, .load false 1 (.t 85)⟩,
                         ⟨some 87, none, .conv .i64 (.t 86)⟩,
                         ⟨some 88, none, .bin .mul (.t 84) (.t 87)⟩,
                         ⟨some 89, none, .bin .add (.t 78) (.t 88)⟩,
                         ⟨some 90, none, .mv (.t 14)⟩,
                         ⟨some 91, none, .idxA 3 1 (.t 4) (.t 90)⟩,
                         ⟨some 92, none, .load false 1 (.t 91)⟩,
                         ⟨some 93, none, .conv .i64 (.t 92)⟩,
                         ⟨some 94, none, .bin .add (.t 89) (.t 93)⟩,
                         ⟨some 95, none, .idxA 3 1 (.t 12) (.t 58)⟩,
                         ⟨none, none, .store 1 (.t 95) (.t 94)⟩])
                       (.keep [3, 4, 5, 10, 11, 12, 13, 14, 55]
                        (.ops [⟨some 96, none, .mv (.t 13)⟩,
                          ⟨some 97, none, .mv (.t 96)⟩,
                          ⟨some 98, some (97, false), .mv (.t 14)⟩,
                          ⟨some 99, some (97, false), .idxA 3 1 (.t 12) (.t 98)⟩,
                          ⟨some 100, some (97, false), .load false 1 (.t 99)⟩,
                          ⟨some 101, some (97, false), .bin .gtr (.t 100) (.k (.int .i64 65536))⟩,
                          ⟨some 102, none, .pick (.t 97) (.k (.bool true)) (.t 101)⟩,
                          ⟨some 103, none, .mv (.t 102)⟩,
                          ⟨some 104, some (103, false), .mv (.t 14)⟩,
                          ⟨some 105, some (103, false), .idxA 3 1 (.t 12) (.t 104)⟩,
                          ⟨some 106, some (103, false), .load false 1 (.t 105)⟩,
                          ⟨some 107, some (103, false), .bin .lss (.t 106) (.k (.int .i64 (-65536)))⟩,
                          ⟨some 108, none, .pick (.t 103) (.k (.bool true)) (.t 107)⟩,
                          ⟨some 13, none, .mv (.t 108)⟩])))))
                    (.keep [3, 4, 5, 10, 11, 12, 13, 55]
                     (.ops [⟨some 109, none, .bin .add (.t 55) (.k (.int .i64 1))⟩,
                       ⟨some 55, none, .mv (.t 109)⟩]))))))))))
            (.keep [10, 11, 12, 13]
             (.seq
              (.seq
               (.ops [⟨some 110, none, .mv (.t 13)⟩])
               (.cond (.t 110)
                (.seq
                 (.ops [⟨some 111, none, .mv (.t 11)⟩,
                   ⟨some 112, none, .bin .eql (.t 111) (.k (.int .i64 8))⟩,
                   ⟨some 113, none, .mv (.t 112)⟩,
                   ⟨some 114, some (113, true), .load true 3 (.t 10)⟩,
                   ⟨some 115, some (113, true), .build [.int .i64 0, .int .i64 0, .int .i64 0] []⟩,
                   ⟨some 116, some (113, true), .eqa false [.i, .i, .i] (.t 114) (.t 115)⟩,
                   ⟨some 117, none, .pick (.t 113) (.t 116) (.k (.bool false))⟩,
                   ⟨some 118, none, .mv (.t 117)⟩,
                   ⟨some 119, some (118, true), .call 229 []⟩,
                   ⟨some 120, none, .pick (.t 118) (.t 119) (.k (.bool false))⟩,
                   ⟨some 6, none, .mv (.t 120)⟩])
                 (.keep [6]
                  .ret))
                .skip))
              (.keep [10, 11, 12]
               (.seq
                (.ops [⟨some 121, none, .mv (.t 11)⟩,
                  ⟨some 122, none, .bin .eql (.t 121) (.k (.int .i64 0))⟩,
                  ⟨some 123, none, .mv (.t 122)⟩,
                  ⟨some 124, some (123, true), .load true 3 (.t 10)⟩,
                  ⟨some 125, some (123, true), .idxA 3 1 (.t 12) (.k (.int .i64 0))⟩,
                  ⟨some 126, some (123, true), .load false 1 (.t 125)⟩,
                  ⟨some 127, some (123, true), .idxA 3 1 (.t 12) (.k (.int .i64 1))⟩,
                  ⟨some 128, some (123, true), .load false 1 (.t 127)⟩,
                  ⟨some 129, some (123, true), .idxA 3 1 (.t 12) (.k (.int .i64 2))⟩,
                  ⟨some 130, some (123, true), .load false 1 (.t 129)⟩,
                  ⟨some 131, some (123, true), .build [.int .i64 0, .int .i64 0, .int .i64 0] [(0, 1, .t 126), (1, 1, .t 128), (2, 1, .t 130)]⟩,
                  ⟨some 132, some (123, true), .eqa false [.i, .i, .i] (.t 124) (.t 131)⟩,
                  ⟨some 133, none, .pick (.t 123) (.t 132) (.k (.bool false))⟩,
                  ⟨some 134, none, .mv (.t 133)⟩,
                  ⟨some 135, some (134, true), .call 229 []⟩,
                  ⟨some 136, none, .pick (.t 134) (.t 135) (.k (.bool false))⟩,
                  ⟨some 6, none, .mv (.t 136)⟩])
                (.keep [6]
                 .ret)))))))))))))))) }
structure N247 (R : Env) : Prop where
  o247 : R.Fn 247 c247
  n229 : N229 R
  n241 : N241 R
  n248 : N248 R
  n249 : N249 R
/-- umbra.umbralaw04.AffineGrid -/
def c250 : IFn := { np := 2, rs := [.t 4], body :=
 (.seq
  (.ops [⟨some 2, none, .box 33 (.t 0)⟩,
    ⟨some 3, none, .box 26 (.t 1)⟩,
    ⟨some 4, none, .mv (.k (.bool false))⟩])
  (.seq
   (.ops [⟨some 13, none, .load true 12 (.t 2)⟩,
     ⟨some 14, none, .load true 3 (.t 3)⟩,
     ⟨some 15, none, .call 241 [.t 13, .t 14]⟩,
     ⟨some 12, none, .mv (.t 15)⟩,
     ⟨some 16, none, .ext (.t 12) 0⟩,
     ⟨some 17, none, .ext (.t 12) 1⟩,
     ⟨some 5, none, .alloc 26 [.int .i64 0, .int .i64 0, .int .i64 0]⟩,
     ⟨none, none, .store 3 (.t 5) (.t 16)⟩,
     ⟨some 6, none, .mv (.t 17)⟩])
   (.keep [3, 5, 6]
    (.seq
     (.seq
      (.ops [⟨some 18, none, .mv (.t 6)⟩,
        ⟨some 19, none, .bin .eql (.t 18) (.k (.int .i64 0))⟩])
      (.cond (.t 19)
       (.seq
        (.ops [⟨some 21, none, .load true 3 (.t 5)⟩,
          ⟨some 22, none, .call 249 [.t 21]⟩,
          ⟨some 23, none, .call 243 [.t 22]⟩,
          ⟨some 20, none, .mv (.t 23)⟩,
          ⟨some 24, none, .ext (.t 20) 0⟩,
          ⟨some 25, none, .ext (.t 20) 1⟩,
          ⟨some 7, none, .alloc 26 [.int .i64 0, .int .i64 0, .int .i64 0]⟩,
          ⟨none, none, .store 3 (.t 7) (.t 24)⟩,
          ⟨some 8, none, .mv (.t 25)⟩])
        (.keep [3, 5, 7, 8]
         (.seq
          (.ops [⟨some 26, none, .mv (.t 8)⟩,
            ⟨some 27, none, .bin .neq (.t 26) (.k (.int .i64 0))⟩,
            ⟨some 28, none, .mv (.t 27)⟩,
            ⟨some 29, some (28, false), .load true 3 (.t 7)⟩,
            ⟨some 30, some (28, false), .load true 3 (.t 5)⟩,
            ⟨some 31, some (28, false), .eqa true [.i, .i, .i] (.t 29) (.t 30)⟩,
            ⟨some 32, none, .pick (.t 28) (.k (.bool true)) (.t 31)⟩,
            ⟨some 33, none, .mv (.t 32)⟩,
            ⟨some 34, some (33, false), .fldA 0 (.t 5)⟩,
            ⟨some 35, some (33, false), .load false 1 (.t 34)⟩,
            ⟨some 36, some (33, false), .fldA 1 (.t 5)⟩,
            ⟨some 37, some (33, false), .load false 1 (.t 36)⟩,
            ⟨some 38, some (33, false), .fldA 2 (.t 5)⟩,
            ⟨some 39, some (33, false), .load false 1 (.t 38)⟩,
            ⟨some 40, some (33, false), .mm true [.t 35, .t 37, .t 39]⟩,
            ⟨some 41, some (33, false), .bin .gtr (.t 40) (.k (.int .i64 65536))⟩,
            ⟨some 42, none, .pick (.t 33) (.k (.bool true)) (.t 41)⟩,
            ⟨some 43, none, .mv (.t 42)⟩,
            ⟨some 44, some (43, false), .fldA 0 (.t 5)⟩,
            ⟨some 45, some (43, false), .load false 1 (.t 44)⟩,
            ⟨some 46, some (43, false), .fldA 1 (.t 5)⟩,
            ⟨some 47, some (43, false), .load false 1 (.t 46)⟩,
            ⟨some 48, some (43, false), .fldA 2 (.t 5)⟩,
            ⟨some 49, some (43, false), .load false 1 (.t 48)⟩,
            ⟨some 50, some (43, false), .mm false [.t 45, .t 47, .t 49]⟩,
            ⟨some 51, some (43, false), .bin .lss (.t 50) (.k (.int .i64 (-65536)))⟩,
            ⟨some 52, none, .pick (.t 43) (.k (.bool true)) (.t 51)⟩])
          (.keep [3, 52]
           (.cond (.t 52)
            (.seq
             (.ops [⟨some 4, none, .mv (.k (.bool false))⟩])
             .ret)
            .skip)))))
       .skip))
     (.keep [3]
      (.seq
       (.draw [0, 0, 3, 7, 15, 15, 0, 95, 255] [[], [3], [54, 55], [56], [53], [53], [], [9, 57], [58]] [⟨some 54, none, .call 221 []⟩,
         ⟨some 55, none, .load true 3 (.t 3)⟩,
         ⟨some 56, none, .call 241 [.t 54, .t 55]⟩,
         ⟨some 53, none, .mv (.t 56)⟩,
         ⟨some 57, none, .ext (.t 53) 0⟩,
         ⟨some 58, none, .ext (.t 53) 1⟩,
         ⟨some 9, none, .alloc 26 [.int .i64 0, .int .i64 0, .int .i64 0]⟩,
         ⟨none, none, .store 3 (.t 9) (.t 57)⟩,
         ⟨some 10, none, .mv (.t 58)⟩])
       (.keep [3, 9, 10]
        (.seq
         (.ops [⟨some 59, none, .fldA 0 (.t 3)⟩,
           ⟨some 60, none, .load false 1 (.t 59)⟩,
           ⟨some 61, none, .fldA 1 (.t 3)⟩,
           ⟨some 62, none, .load false 1 (.t 61)⟩,
           ⟨some 63, none, .fldA 2 (.t 3)⟩,
           ⟨some 64, none, .load false 1 (.t 63)⟩,
           ⟨some 65, none, .mm true [.t 60, .t 62, .t 64]⟩,
           ⟨some 66, none, .bin .leq (.t 65) (.k (.int .i64 65536))⟩,
           ⟨some 67, none, .mv (.t 66)⟩,
           ⟨some 68, some (67, true), .fldA 0 (.t 3)⟩,
           ⟨some 69, some (67, true), .load false 1 (.t 68)⟩,
           ⟨some 70, some (67, true), .fldA 1 (.t 3)⟩,
           ⟨some 71, some (67, true), .load false 1 (.t 70)⟩,
           ⟨some 72, some (67, true), .fldA 2 (.t 3)⟩,
           ⟨some 73, some (67, true), .load false 1 (.t 72)⟩,
           ⟨some 74, some (67, true), .mm false [.t 69, .t 71, .t 73]⟩,
           ⟨some 75, some (67, true), .bin .geq (.t 74) (.k (.int .i64 (-65536)))⟩,
           ⟨some 76, none, .pick (.t 67) (.t 75) (.k (.bool false))⟩,
           ⟨some 11, none, .mv (.t 76)⟩])
         (.keep [3, 9, 10, 11]
          (.seq
           (.ops [⟨some 77, none, .mv (.t 10)⟩,
             ⟨some 78, none, .bin .eql (.t 77) (.k (.int .i64 0))⟩,
             ⟨some 79, none, .mv (.t 11)⟩,
             ⟨some 80, none, .eqb false (.t 78) (.t 79)⟩,
             ⟨some 81, none, .mv (.t 80)⟩,
             ⟨some 82, some (81, true), .mv (.t 11)⟩,
             ⟨some 83, some (81, true), .un .not (.t 82)⟩,
             ⟨some 84, some (81, true), .mv (.t 83)⟩,
             ⟨some 85, some (84, false), .load true 3 (.t 9)⟩,
             ⟨some 86, some (84, false), .load true 3 (.t 3)⟩,
             ⟨some 87, some (84, false), .eqa false [.i, .i, .i] (.t 85) (.t 86)⟩,
             ⟨some 88, some (81, true), .pick (.t 84) (.k (.bool true)) (.t 87)⟩,
             ⟨some 89, none, .pick (.t 81) (.t 88) (.k (.bool false))⟩,
             ⟨some 90, none, .mv (.t 89)⟩,
             ⟨some 91, some (90, true), .call 229 []⟩,
             ⟨some 92, none, .pick (.t 90) (.t 91) (.k (.bool false))⟩,
             ⟨some 4, none, .mv (.t 92)⟩])
           (.keep [4]
            .ret))))))))))) }
structure N250 (R : Env) : Prop where
  o250 : R.Fn 250 c250
  n221 : N221 R
  n229 : N229 R
  n241 : N241 R
  n243 : N243 R
  n249 : N249 R
end Go.UM

/- Bytes and rows of numbers. -/

namespace Go.UM
open Go.AM

/-- The byte of a number. -/
def u8 (n : Int) : UInt8 := UInt8.ofNat (n % 256).toNat
theorem wr_u8 (n : Int) : wr .u8 n = ((u8 n).toNat : Int) := by
  have h1 : 0 ≤ n % 256 := Int.emod_nonneg _ (by decide)
  have h2 : n % 256 < 256 := Int.emod_lt_of_pos _ (by decide)
  simp only [wr, IntKind.wrap, IntKind.bits, IntKind.signed, u8]
  simp
  omega
theorem u8_mod (n : Int) : u8 (n % 256) = u8 n := by unfold u8; rw [Int.emod_emod_of_dvd n (Int.dvd_refl 256)]
theorem u8_tmod {n : Int} (h : 0 ≤ n) : u8 (n.tmod 256) = u8 n := by rw [Int.tmod_eq_emod_of_nonneg h, u8_mod]
theorem u8_toNat (c : UInt8) : u8 (c.toNat : Int) = c := by
  have := c.toNat_lt
  unfold u8
  rw [show ((c.toNat : Int) % 256).toNat = c.toNat by omega]
  simp

theorem u8_in {n : Int} (h : 0 ≤ n ∧ n ≤ 255) : ((u8 n).toNat : Int) = n := by rw [← wr_u8, wr_in (k := .u8) h]

/-- Bytes, and numbers, as the elements of a slice. -/
def slc8 (l : List UInt8) : List (List AV) := l.map fun c => [.int .u8 c.toNat]
def slcK (k : IntKind) (l : List Int) : List (List AV) := l.map fun x => [.int k x]
@[simp] theorem slc8_nil : slc8 [] = [] := rfl
@[simp] theorem slc8_length (l : List UInt8) : (slc8 l).length = l.length := by simp [slc8]
@[simp] theorem slc8_append (a b : List UInt8) : slc8 (a ++ b) = slc8 a ++ slc8 b := by simp [slc8]
@[simp] theorem slc8_one (n : Int) : [[AV.int .u8 (wr .u8 n)]] = slc8 [u8 n] := by simp [slc8, wr_u8]
@[simp] theorem slcK_nil (k : IntKind) : slcK k [] = [] := rfl
@[simp] theorem slcK_length (k : IntKind) (l : List Int) : (slcK k l).length = l.length := by simp [slcK]
@[simp] theorem slcK_append (k : IntKind) (a b : List Int) : slcK k (a ++ b) = slcK k a ++ slcK k b := by simp [slcK]
theorem slcK_one (k : IntKind) (n : Int) : [[AV.int k n]] = slcK k [n] := rfl
@[simp] theorem slc8_NmL (l : List UInt8) : NmL (slc8 l) := by simp [slc8]
@[simp] theorem slcK_NmL (k : IntKind) (l : List Int) : NmL (slcK k l) := by simp [slcK]
@[simp] theorem slc8_FlL (l : List UInt8) : FlL (slc8 l) := by simp [slc8]
@[simp] theorem slcK_FlL (k : IntKind) (l : List Int) : FlL (slcK k l) := by simp [slcK]
instance {l : List UInt8} : LenOf (slc8 l) l.length := ⟨slc8_length l⟩
instance {k : IntKind} {l : List Int} : LenOf (slcK k l) l.length := ⟨slcK_length k l⟩
@[simp] theorem mem_slc8 {e : List AV} {l : List UInt8} : e ∈ slc8 l ↔ ∃ c, c ∈ l ∧ [AV.int .u8 c.toNat] = e := by simp [slc8]
@[simp] theorem mem_slcK {k : IntKind} {e : List AV} {l : List Int} : e ∈ slcK k l ↔ ∃ c, c ∈ l ∧ [AV.int k c] = e := by simp [slcK]
theorem slc8_take (l : List UInt8) (k : Nat) : (slc8 l).take k = slc8 (l.take k) := by simp [slc8, List.map_take]
theorem slc8_drop (l : List UInt8) (k : Nat) : (slc8 l).drop k = slc8 (l.drop k) := by simp [slc8, List.map_drop]
theorem slcK_take (k' : IntKind) (l : List Int) (k : Nat) : (slcK k' l).take k = slcK k' (l.take k) := by simp [slcK, List.map_take]
theorem slcK_drop (k' : IntKind) (l : List Int) (k : Nat) : (slcK k' l).drop k = slcK k' (l.drop k) := by simp [slcK, List.map_drop]
theorem slc8_inj {a b : List UInt8} (h : slc8 a = slc8 b) : a = b := by
  have := congrArg (List.map fun e : List AV => match e with | [.int _ n] => u8 n | _ => 0) h
  simpa [slc8, List.map_map, Function.comp_def, u8_toNat] using this
theorem get8 {l : List UInt8} {i : Nat} {x : UInt8} (h : l[i]? = some x) {K : List AV → Prop} (k : K [.int .u8 x.toNat]) : EGet (slc8 l) i K := eget_map h k
theorem getK {kk : IntKind} {l : List Int} {i : Nat} {x : Int} (h : l[i]? = some x) {K : List AV → Prop} (k : K [.int kk x]) : EGet (slcK kk l) i K := eget_map h k

theorem take_succ_get {α : Type} {l : List α} {k : Nat} {x : α} (h : l[k]? = some x) : l.take (k + 1) = l.take k ++ [x] := by
  rw [List.take_add_one, h]; rfl

theorem shr_eq {k : IntKind} {x y : Int} (hx : 0 ≤ x) : shrI k x y = x / 2 ^ (min y.toNat k.bits) := by
  unfold shrI
  rw [Int.fdiv_eq_ediv_of_nonneg]
  exact Int.le_of_lt (Int.pow_pos (by decide))
theorem aS8 {s : List UInt8} {K : List UInt8 → Prop} (k : K s) : AStr (slc8 s) K := ⟨⟨s, rfl, k⟩⟩
theorem take_cap {α : Type} (l : List α) (m : Int) : l.take (min (l.length : Int) m).toNat = l.take m.toNat := by
  by_cases h : (l.length : Int) ≤ m
  · rw [show (min (l.length : Int) m).toNat = l.length by omega, List.take_of_length_le (Nat.le_refl _), List.take_of_length_le (by omega)]
  · rw [show (min (l.length : Int) m).toNat = m.toNat by omega]
theorem cap8 (b : List UInt8) (m : Int) : (slc8 b).take (min (b.length : Int) m).toNat = slc8 (b.take m.toNat) := by rw [slc8_take, take_cap]
theorem capK (k : IntKind) (b : List Int) (m : Int) : (slcK k b).take (min (b.length : Int) m).toNat = slcK k (b.take m.toNat) := by rw [slcK_take, take_cap]
instance {l : List UInt8} {k : Nat} : TkOf ((slc8 l).take k) (slc8 (l.take k)) := ⟨slc8_take l k⟩
instance {l : List UInt8} {k : Nat} : TkOf ((slc8 l).drop k) (slc8 (l.drop k)) := ⟨slc8_drop l k⟩
instance {l : List UInt8} {k j : Nat} : TkOf (((slc8 l).take k).drop j) (slc8 ((l.take k).drop j)) := ⟨by rw [slc8_take, slc8_drop]⟩
instance {kk : IntKind} {l : List Int} {k : Nat} : TkOf ((slcK kk l).take k) (slcK kk (l.take k)) := ⟨slcK_take kk l k⟩
instance {kk : IntKind} {l : List Int} {k : Nat} : TkOf ((slcK kk l).drop k) (slcK kk (l.drop k)) := ⟨slcK_drop kk l k⟩
instance {kk : IntKind} {l : List Int} {k j : Nat} : TkOf (((slcK kk l).take k).drop j) (slcK kk ((l.take k).drop j)) := ⟨by rw [slcK_take, slcK_drop]⟩
end Go.UM

/- Bits of numbers; numbers of bytes. -/

namespace Go.UM
open Go.AM

theorem ofInt_toNat {n : Nat} {x : Int} (h0 : 0 ≤ x) (h1 : x < 2 ^ n) : (BitVec.ofInt n x).toNat = x.toNat := by
  rw [BitVec.toNat_ofInt]
  congr 1
  apply Int.emod_eq_of_lt h0
  exact_mod_cast h1

theorem wr_nat_u64 {x : Nat} (h : x < 18446744073709551616) : wr .u64 (x : Int) = x := wr_in (k := .u64) ⟨by omega, by omega⟩
theorem wr_nat_u8 {x : Nat} (h : x < 256) : wr .u8 (x : Int) = x := wr_in (k := .u8) ⟨by omega, by omega⟩
theorem wr_nat_i64 {x : Nat} (h : x < 9223372036854775808) : wr .i64 (x : Int) = x := wr_in (k := .i64) ⟨by omega, by omega⟩

theorem or_u64 {x y : Int} (hx : 0 ≤ x ∧ x ≤ 18446744073709551615) (hy : 0 ≤ y ∧ y ≤ 18446744073709551615) : bit2 .or .u64 x y = ((x.toNat ||| y.toNat : Nat) : Int) := by
  have e : bit2 .or .u64 x y = wr .u64 ((BitVec.ofInt 64 x ||| BitVec.ofInt 64 y).toNat : Int) := rfl
  rw [e, BitVec.toNat_or, ofInt_toNat hx.1 (by omega), ofInt_toNat hy.1 (by omega)]
  apply wr_nat_u64
  exact Nat.or_lt_two_pow (n := 64) (by omega) (by omega)

theorem and_u64 {x y : Int} (hx : 0 ≤ x ∧ x ≤ 18446744073709551615) (hy : 0 ≤ y ∧ y ≤ 18446744073709551615) : bit2 .and .u64 x y = ((x.toNat &&& y.toNat : Nat) : Int) := by
  have e : bit2 .and .u64 x y = wr .u64 ((BitVec.ofInt 64 x &&& BitVec.ofInt 64 y).toNat : Int) := rfl
  rw [e, BitVec.toNat_and, ofInt_toNat hx.1 (by omega), ofInt_toNat hy.1 (by omega)]
  apply wr_nat_u64
  exact Nat.and_lt_two_pow (n := 64) _ (by omega)

theorem or_i64 {x y : Int} (hx : 0 ≤ x ∧ x ≤ 9223372036854775807) (hy : 0 ≤ y ∧ y ≤ 9223372036854775807) : bit2 .or .i64 x y = ((x.toNat ||| y.toNat : Nat) : Int) := by
  have e : bit2 .or .i64 x y = wr .i64 ((BitVec.ofInt 64 x ||| BitVec.ofInt 64 y).toNat : Int) := rfl
  rw [e, BitVec.toNat_or, ofInt_toNat hx.1 (by omega), ofInt_toNat hy.1 (by omega)]
  apply wr_nat_i64
  exact Nat.or_lt_two_pow (n := 63) (by omega) (by omega)

theorem and_i64 {x y : Int} (hx : 0 ≤ x ∧ x ≤ 9223372036854775807) (hy : 0 ≤ y ∧ y ≤ 9223372036854775807) : bit2 .and .i64 x y = ((x.toNat &&& y.toNat : Nat) : Int) := by
  have e : bit2 .and .i64 x y = wr .i64 ((BitVec.ofInt 64 x &&& BitVec.ofInt 64 y).toNat : Int) := rfl
  rw [e, BitVec.toNat_and, ofInt_toNat hx.1 (by omega), ofInt_toNat hy.1 (by omega)]
  apply wr_nat_i64
  exact Nat.and_lt_two_pow (n := 63) _ (by omega)

/-- The number of bytes, the least first. -/
def le : List UInt8 → Nat
  | [] => 0
  | c :: r => c.toNat + 256 * le r
theorem le_lt : ∀ l : List UInt8, le l < 256 ^ l.length
  | [] => by simp [le]
  | c :: r => by
    have h1 := le_lt r
    have h2 := c.toNat_lt
    simp only [le, List.length_cons, Nat.pow_succ]
    omega
theorem le_append : ∀ (l m : List UInt8), le (l ++ m) = le l + 256 ^ l.length * le m
  | [], m => by simp [le]
  | c :: r, m => by
    simp only [List.cons_append, le, le_append r, List.length_cons, Nat.pow_succ, Nat.mul_add]
    rw [Nat.mul_comm (256 ^ r.length) 256, Nat.mul_assoc]
    omega
theorem le_snoc (l : List UInt8) (c : UInt8) : le (l ++ [c]) = le l + 256 ^ l.length * c.toNat := by
  rw [le_append]; simp [le]

theorem shl_byte {c : Nat} {i : Nat} (hc : c < 256) (hi : i < 8) : shlI .u64 (c : Int) (8 * (i : Int)) = ((256 ^ i * c : Nat) : Int) := by
  have h : (8 * (i : Int)).toNat = 8 * i := by omega
  unfold shlI
  rw [h, show min (8 * i) (IntKind.bits .u64) = 8 * i by simp [IntKind.bits]; omega]
  have hp : (2 : Int) ^ (8 * i) = ((256 ^ i : Nat) : Int) := by rw [Int.pow_mul, Int.natCast_pow]; rfl
  rw [hp]
  have e : (c : Int) * ((256 ^ i : Nat) : Int) = ((256 ^ i * c : Nat) : Int) := by rw [Int.natCast_mul, Int.mul_comm]
  rw [e]
  apply wr_nat_u64
  have h1 : 256 ^ i * c < 256 ^ i * 256 := by
    apply Nat.mul_lt_mul_of_pos_left hc
    exact Nat.pow_pos (by decide)
  have h2 : 256 ^ i * 256 ≤ 256 ^ 8 := by
    rw [← Nat.pow_succ]
    exact Nat.pow_le_pow_right (by decide) (by omega)
  omega

theorem or_byte {n : Nat} {c : Nat} {i : Nat} (hn : n < 256 ^ i) (hc : c < 256) (hi : i < 8) : bit2 .or .u64 (n : Int) (shlI .u64 (c : Int) (8 * (i : Int))) = ((n + 256 ^ i * c : Nat) : Int) := by
  have h2 : 256 ^ i * 256 ≤ 256 ^ 8 := by
    rw [← Nat.pow_succ]
    exact Nat.pow_le_pow_right (by decide) (by omega)
  have h1 : 256 ^ i * c < 256 ^ i * 256 := by
    apply Nat.mul_lt_mul_of_pos_left hc
    exact Nat.pow_pos (by decide)
  rw [shl_byte hc hi, or_u64 ⟨by omega, by omega⟩ ⟨by omega, by omega⟩, Int.toNat_natCast, Int.toNat_natCast, Nat.or_comm]
  congr 1
  have e : 256 ^ i = 2 ^ (8 * i) := by rw [Nat.pow_mul]
  rw [e] at hn ⊢
  rw [← Nat.two_pow_add_eq_or_of_lt hn, Nat.add_comm]
end Go.UM

/- Rows of three numbers. -/

namespace Go.UM
open Go.AM

/-- Three numbers. -/
structure T3 where
  (a b c : Int)
def z3 : T3 := ⟨0, 0, 0⟩
def t3 (x : T3) : List AV := [.int .i64 x.a, .int .i64 x.b, .int .i64 x.c]
def slc3 (l : List T3) : List (List AV) := l.map t3
@[simp] theorem slc3_nil : slc3 [] = [] := rfl
@[simp] theorem slc3_length (l : List T3) : (slc3 l).length = l.length := by simp [slc3]
@[simp] theorem slc3_append (a b : List T3) : slc3 (a ++ b) = slc3 a ++ slc3 b := by simp [slc3]
@[simp] theorem slc3_NmL (l : List T3) : NmL (slc3 l) := by simp [slc3, t3]
@[simp] theorem slc3_FlL (l : List T3) : FlL (slc3 l) := by simp [slc3, t3]
theorem slc3_take (l : List T3) (k : Nat) : (slc3 l).take k = slc3 (l.take k) := by simp [slc3, List.map_take]
theorem slc3_drop (l : List T3) (k : Nat) : (slc3 l).drop k = slc3 (l.drop k) := by simp [slc3, List.map_drop]
instance {l : List T3} : LenOf (slc3 l) l.length := ⟨slc3_length l⟩
instance {l : List T3} {k : Nat} : TkOf ((slc3 l).take k) (slc3 (l.take k)) := ⟨slc3_take l k⟩
instance {l : List T3} {k : Nat} : TkOf ((slc3 l).drop k) (slc3 (l.drop k)) := ⟨slc3_drop l k⟩
end Go.UM

/- Numbers that stay within 64 bits; numbers of 128 bits (plain). -/


namespace Go.UM
open Go.AM
set_option maxRecDepth 4000

abbrev I64 (n : Int) : Prop := inI .i64 n
abbrev U64 (n : Int) : Prop := inI .u64 n
theorem i64_iff {n : Int} : I64 n ↔ -9223372036854775808 ≤ n ∧ n ≤ 9223372036854775807 := Iff.rfl
theorem u64_iff {n : Int} : U64 n ↔ 0 ≤ n ∧ n ≤ 18446744073709551615 := Iff.rfl
theorem wr_u64 (n : Int) : wr .u64 n = n % 18446744073709551616 := by
  simp only [wr, IntKind.wrap, IntKind.bits, IntKind.signed]; simp
theorem wr_i64 (n : Int) : wr .i64 n = (n + 9223372036854775808) % 18446744073709551616 - 9223372036854775808 := by
  simp only [wr, IntKind.wrap, IntKind.bits, IntKind.signed]; simp; omega

/-- The nearest number of 64 bits. -/
def sat (v : Int) : Int := if 9223372036854775807 < v then 9223372036854775807 else if v < -9223372036854775808 then -9223372036854775808 else v
theorem sat_in (v : Int) : I64 (sat v) := by
  rw [i64_iff]; unfold sat; split
  · omega
  · split <;> omega
theorem sat_id {v : Int} (h : I64 v) : sat v = v := by
  rw [i64_iff] at h; unfold sat; rw [if_neg (by omega), if_neg (by omega)]
def tadd (a b : Int) : Int := sat (a + b)
def tmul (a b : Int) : Int := sat (a * b / 4294967296)

/-- The size of a number. -/
def absI (x : Int) : Int := if x < 0 then -x else x
theorem absI_in {x : Int} (h : I64 x) : 0 ≤ absI x ∧ absI x ≤ 9223372036854775808 := by
  rw [i64_iff] at h; unfold absI; split <;> omega
theorem mul_abs (a b : Int) : a * b = if (decide (a < 0) != decide (b < 0)) = true then -(absI a * absI b) else absI a * absI b := by
  unfold absI
  by_cases ha : a < 0 <;> by_cases hb : b < 0 <;> simp [ha, hb, Int.neg_mul, Int.mul_neg]
theorem abs_mul_le {x y B : Int} (hx : 0 ≤ x ∧ x ≤ B) (hy : 0 ≤ y ∧ y ≤ B) : 0 ≤ x * y ∧ x * y ≤ B * B :=
  ⟨Int.mul_nonneg hx.1 hy.1, Int.mul_le_mul hx.2 hy.2 hy.1 (by omega)⟩
/-- Products of numbers of 64 bits. -/
theorem prod_in {a b : Int} (ha : I64 a) (hb : I64 b) : -85070591730234615865843651857942052864 ≤ a * b ∧ a * b ≤ 85070591730234615865843651857942052864 := by
  have h := abs_mul_le (absI_in ha) (absI_in hb)
  rw [mul_abs]
  split <;> omega

/-! ### Parts of 128 bits -/
def whi (v : Int) : Int := v / 18446744073709551616
def wlo (v : Int) : Int := v % 18446744073709551616
abbrev W126 (v : Int) : Prop := -85070591730234615865843651857942052864 ≤ v ∧ v ≤ 85070591730234615865843651857942052864
theorem whi_in {v : Int} (h : W126 v) : -4611686018427387904 ≤ whi v ∧ whi v ≤ 4611686018427387904 := by unfold whi; omega
theorem wlo_in (v : Int) : 0 ≤ wlo v ∧ wlo v ≤ 18446744073709551615 := by unfold wlo; omega
theorem w_eq (v : Int) : v = whi v * 18446744073709551616 + wlo v := by unfold whi wlo; omega

/-- The product by halves. -/
theorem mul64_e {x y : Int} (hx : U64 x) (hy : U64 y) :
    (0 ≤ x % 4294967296 * (y % 4294967296) ∧ x % 4294967296 * (y % 4294967296) ≤ 18446744065119617025) ∧
    (0 ≤ x / 4294967296 * (y % 4294967296) ∧ x / 4294967296 * (y % 4294967296) ≤ 18446744065119617025) ∧
    (0 ≤ x % 4294967296 * (y / 4294967296) ∧ x % 4294967296 * (y / 4294967296) ≤ 18446744065119617025) ∧
    (0 ≤ x / 4294967296 * (y / 4294967296) ∧ x / 4294967296 * (y / 4294967296) ≤ 18446744065119617025) ∧
    x * y = x / 4294967296 * (y / 4294967296) * 18446744073709551616 + (x / 4294967296 * (y % 4294967296) + x % 4294967296 * (y / 4294967296)) * 4294967296 + x % 4294967296 * (y % 4294967296) := by
  rw [u64_iff] at hx hy
  have a1 : 0 ≤ x % 4294967296 ∧ x % 4294967296 ≤ 4294967295 := by omega
  have a2 : 0 ≤ x / 4294967296 ∧ x / 4294967296 ≤ 4294967295 := by omega
  have b1 : 0 ≤ y % 4294967296 ∧ y % 4294967296 ≤ 4294967295 := by omega
  have b2 : 0 ≤ y / 4294967296 ∧ y / 4294967296 ≤ 4294967295 := by omega
  refine ⟨abs_mul_le a1 b1, abs_mul_le a2 b1, abs_mul_le a1 b2, abs_mul_le a2 b2, ?_⟩
  have ex : x = x / 4294967296 * 4294967296 + x % 4294967296 := by omega
  have ey : y = y / 4294967296 * 4294967296 + y % 4294967296 := by omega
  generalize x / 4294967296 = p at *
  generalize x % 4294967296 = q at *
  generalize y / 4294967296 = r at *
  generalize y % 4294967296 = s at *
  subst ex; subst ey
  simp only [Int.mul_add, Int.add_mul]
  have e1 : p * 4294967296 * (r * 4294967296) = p * r * 18446744073709551616 := by
    rw [Int.mul_assoc p, Int.mul_left_comm 4294967296 r, ← Int.mul_assoc]; rfl
  have e2 : p * 4294967296 * s = p * s * 4294967296 := by rw [Int.mul_assoc, Int.mul_comm 4294967296 s, Int.mul_assoc]
  have e3 : q * (r * 4294967296) = q * r * 4294967296 := by rw [Int.mul_assoc]
  rw [e1, e2, e3]
  omega

/-! ### Bits -/
theorem or_shift {hi lo : Int} (hh : 0 ≤ hi ∧ hi ≤ 4294967295) (hl : 0 ≤ lo ∧ lo ≤ 4294967295) : bit2 .or .u64 (hi * 4294967296) lo = hi * 4294967296 + lo := by
  rw [or_u64 ⟨by omega, by omega⟩ ⟨by omega, by omega⟩]
  have e : (hi * 4294967296).toNat = 2 ^ 32 * hi.toNat := by omega
  rw [e, ← Nat.two_pow_add_eq_or_of_lt (i := 32) (b := lo.toNat) (by omega)]
  omega
theorem and_low {x : Int} (h : U64 x) : bit2 .and .u64 x 4294967295 = x % 4294967296 := by
  rw [u64_iff] at h
  rw [and_u64 ⟨by omega, by omega⟩ ⟨by omega, by omega⟩]
  have e : ((4294967295 : Int).toNat) = 2 ^ 32 - 1 := rfl
  rw [e, Nat.and_two_pow_sub_one_eq_mod]
  omega
theorem shr32 {x : Int} (k : IntKind) (hk : 32 ≤ k.bits) : shrI k x 32 = x / 4294967296 := by
  unfold shrI
  rw [show min (32 : Int).toNat k.bits = 32 by simp; omega]
  exact Int.fdiv_eq_ediv_of_nonneg _ (by decide)
theorem shr63 {x : Int} (k : IntKind) (hk : 63 ≤ k.bits) : shrI k x 63 = x / 9223372036854775808 := by
  unfold shrI
  rw [show min (63 : Int).toNat k.bits = 63 by simp; omega]
  exact Int.fdiv_eq_ediv_of_nonneg _ (by decide)
theorem shr31 {x : Int} (k : IntKind) (hk : 31 ≤ k.bits) : shrI k x 31 = x / 2147483648 := by
  unfold shrI
  rw [show min (31 : Int).toNat k.bits = 31 by simp; omega]
  exact Int.fdiv_eq_ediv_of_nonneg _ (by decide)
theorem shl32 {x : Int} : shlI .u64 x 32 = x * 4294967296 % 18446744073709551616 := by
  unfold shlI
  rw [show min (32 : Int).toNat (IntKind.bits .u64) = 32 by rfl]
  show wr .u64 _ = _
  rw [wr_u64]; rfl
end Go.UM

/- Transforms (plain). -/

namespace Go.UM
open Go.AM
set_option maxRecDepth 4000

/-- All three numbers are of 64 bits. -/
abbrev T3.I (t : T3) : Prop := I64 t.a ∧ I64 t.b ∧ I64 t.c
def vadd (x y : T3) : T3 := ⟨tadd x.a y.a, tadd x.b y.b, tadd x.c y.c⟩
def vmul (x y : T3) : T3 := ⟨tmul x.a y.a, tmul x.b y.b, tmul x.c y.c⟩
def one3 : T3 := ⟨4294967296, 4294967296, 4294967296⟩
def dot (x y : T3) : Int := tadd (tadd (tmul x.a y.a) (tmul x.b y.b)) (tmul x.c y.c)
def sizeI (x : Int) : Int := if x < 0 then sat (-x) else x
def mostT (v : T3) : Int := max (max (sizeI v.a) (sizeI v.b)) (sizeI v.c)
def rnd (x : Int) : Int := (x + 2147483648) / 4294967296
def vof (p : T3) : T3 := ⟨sat (p.a * 4294967296), sat (p.b * 4294967296), sat (p.c * 4294967296)⟩

theorem tadd_in (x y : Int) : I64 (tadd x y) := sat_in _
theorem tmul_in (x y : Int) : I64 (tmul x y) := sat_in _
theorem vadd_in (x y : T3) : (vadd x y).I := ⟨tadd_in _ _, tadd_in _ _, tadd_in _ _⟩
theorem vmul_in (x y : T3) : (vmul x y).I := ⟨tmul_in _ _, tmul_in _ _, tmul_in _ _⟩
theorem dot_in (x y : T3) : I64 (dot x y) := tadd_in _ _
theorem vof_in (p : T3) : (vof p).I := ⟨sat_in _, sat_in _, sat_in _⟩
theorem tadd0 {x : Int} (h : I64 x) : tadd 0 x = x := by unfold tadd; rw [Int.zero_add, sat_id h]
theorem tadd_0 {x : Int} (h : I64 x) : tadd x 0 = x := by unfold tadd; rw [Int.add_zero, sat_id h]
theorem tmul1 {x : Int} (h : I64 x) : tmul 4294967296 x = x := by unfold tmul; rw [Int.mul_ediv_cancel_left _ (by decide), sat_id h]
theorem tmul_1 {x : Int} (h : I64 x) : tmul x 4294967296 = x := by unfold tmul; rw [Int.mul_ediv_cancel _ (by decide), sat_id h]
theorem tmul0 (x : Int) : tmul 0 x = 0 := by unfold tmul; rw [Int.zero_mul]; rfl
theorem tmul_0 (x : Int) : tmul x 0 = 0 := by unfold tmul; rw [Int.mul_zero]; rfl
theorem vadd0 {x : T3} (h : x.I) : vadd z3 x = x := by simp only [vadd, z3, tadd0 h.1, tadd0 h.2.1, tadd0 h.2.2]
theorem vmul1 {x : T3} (h : x.I) : vmul one3 x = x := by simp only [vmul, one3, tmul1 h.1, tmul1 h.2.1, tmul1 h.2.2]
theorem z3_in : z3.I := ⟨⟨by decide, by decide⟩, ⟨by decide, by decide⟩, ⟨by decide, by decide⟩⟩
theorem one3_in : one3.I := ⟨⟨by decide, by decide⟩, ⟨by decide, by decide⟩, ⟨by decide, by decide⟩⟩

/-- A transform: its rows, and where it moves to. -/
structure Af where
  (m0 m1 m2 m3 m4 m5 m6 m7 m8 : Int)
  t : T3
def Af.row (a : Af) : List AV := [.int .i64 a.m0, .int .i64 a.m1, .int .i64 a.m2, .int .i64 a.m3, .int .i64 a.m4, .int .i64 a.m5, .int .i64 a.m6, .int .i64 a.m7, .int .i64 a.m8, .int .i64 a.t.a, .int .i64 a.t.b, .int .i64 a.t.c]
/-- Its nine numbers. -/
def Af.mrow (a : Af) : List AV := [.int .i64 a.m0, .int .i64 a.m1, .int .i64 a.m2, .int .i64 a.m3, .int .i64 a.m4, .int .i64 a.m5, .int .i64 a.m6, .int .i64 a.m7, .int .i64 a.m8]
structure Af.I (a : Af) : Prop where
  m0 : I64 a.m0
  m1 : I64 a.m1
  m2 : I64 a.m2
  m3 : I64 a.m3
  m4 : I64 a.m4
  m5 : I64 a.m5
  m6 : I64 a.m6
  m7 : I64 a.m7
  m8 : I64 a.m8
  t : a.t.I
def Af.rw (a : Af) : Nat → T3
  | 0 => ⟨a.m0, a.m1, a.m2⟩ | 1 => ⟨a.m3, a.m4, a.m5⟩ | _ => ⟨a.m6, a.m7, a.m8⟩
def Af.cl (a : Af) : Nat → T3
  | 0 => ⟨a.m0, a.m3, a.m6⟩ | 1 => ⟨a.m1, a.m4, a.m7⟩ | _ => ⟨a.m2, a.m5, a.m8⟩
theorem Af.I.rw {a : Af} (h : a.I) (i : Nat) : (a.rw i).I := by
  unfold Af.rw; split
  · exact ⟨h.m0, h.m1, h.m2⟩
  · exact ⟨h.m3, h.m4, h.m5⟩
  · exact ⟨h.m6, h.m7, h.m8⟩
theorem Af.I.cl {a : Af} (h : a.I) (i : Nat) : (a.cl i).I := by
  unfold Af.cl; split
  · exact ⟨h.m0, h.m3, h.m6⟩
  · exact ⟨h.m1, h.m4, h.m7⟩
  · exact ⟨h.m2, h.m5, h.m8⟩
def same4 : Af := ⟨4294967296, 0, 0, 0, 4294967296, 0, 0, 0, 4294967296, z3⟩
def move4 (v : T3) : Af := ⟨4294967296, 0, 0, 0, 4294967296, 0, 0, 0, 4294967296, v⟩
def diag (x y z : Int) : Af := ⟨x, 0, 0, 0, y, 0, 0, 0, z, z3⟩
def size4 : List Int → Af
  | [] => same4
  | [x] => diag x x x
  | [x, _] => diag x x x
  | x :: y :: z :: _ => diag x y z
def cols (x y z t : T3) : Af := ⟨x.a, y.a, z.a, x.b, y.b, z.b, x.c, y.c, z.c, t⟩
def ax0 : T3 := ⟨4294967296, 0, 0⟩
def ax1 : T3 := ⟨0, 4294967296, 0⟩
def ax2 : T3 := ⟨0, 0, 4294967296⟩
def axes4 : List T3 → Af
  | [] => cols ax0 ax1 ax2 z3
  | [x] => cols x ax1 ax2 z3
  | [x, y] => cols x y ax2 z3
  | [x, y, z] => cols x y z z3
  | x :: y :: z :: t :: _ => cols x y z t
def turn4 (a : Af) (v : T3) : T3 := ⟨dot (a.rw 0) v, dot (a.rw 1) v, dot (a.rw 2) v⟩
def apply4 (a : Af) (v : T3) : T3 := vadd (turn4 a v) a.t
theorem turn_in (a : Af) (v : T3) : (turn4 a v).I := ⟨dot_in _ _, dot_in _ _, dot_in _ _⟩
theorem apply_in (a : Af) (v : T3) : (apply4 a v).I := vadd_in _ _
def comp4 (f g : Af) : Af := cols (turn4 g (f.cl 0)) (turn4 g (f.cl 1)) (turn4 g (f.cl 2)) (apply4 g f.t)
def then4 : List Af → Af
  | [] => same4
  | f :: r => r.foldl comp4 f
theorem comp_in (f g : Af) : (comp4 f g).I := by
  have h0 := turn_in g (f.cl 0)
  have h1 := turn_in g (f.cl 1)
  have h2 := turn_in g (f.cl 2)
  exact ⟨h0.1, h1.1, h2.1, h0.2.1, h1.2.1, h2.2.1, h0.2.2, h1.2.2, h2.2.2, apply_in g f.t⟩
theorem same_in : same4.I := by
  refine ⟨?_, ?_, ?_, ?_, ?_, ?_, ?_, ?_, ?_, z3_in⟩ <;> exact ⟨by decide, by decide⟩

def off40 (x : Int) : Bool := decide (1099511627776 < x) || decide (x < -1099511627776)
def ms (a : Af) : List Int := [a.m0, a.m1, a.m2, a.m3, a.m4, a.m5, a.m6, a.m7, a.m8]
def chk4 (a : Af) : Int := if (ms a).any off40 = true then 2 else if 562949953421312 < mostT a.t then 2 else 0
def offG (x : Int) : Bool := decide (65536 < x) || decide (x < -65536)
def rnd3 (v : T3) : T3 := ⟨rnd v.a, rnd v.b, rnd v.c⟩
def snap4 (v : T3) : T3 × Int := if (offG (rnd v.a) || offG (rnd v.b) || offG (rnd v.c)) = true then (z3, 8) else (rnd3 v, 0)
def place4 (a : Af) (p : T3) : T3 × Int := if chk4 a ≠ 0 then (z3, chk4 a) else snap4 (apply4 a (vof p))
end Go.UM

/- Functions of the library that the model answers by itself. -/


namespace Go.UM
open Go.AM
set_option maxRecDepth 4000

/-- The entry for a difference with a borrow. -/
def sub64E : Array Value → Sem Value := fun args => do
  let (x, y, b) ← Extern.MathBitsCarry.three "Sub64" args
  pure (Extern.MathBitsCarry.pair ((x + Extern.MathBitsCarry.m64 - y - b) % Extern.MathBitsCarry.m64) (if x < y + b then 1 else 0))
theorem sub64_run {P : Program} (x y b : Nat) (hb : b ≤ 1) (w : World) : (sub64E #[.int .u64 x, .int .u64 y, .int .u64 b]).run P w =
    .ok (.tuple #[.int .u64 (((x + 18446744073709551616 - y - b) % 18446744073709551616 : Nat) : Int), .int .u64 ((if x < y + b then 1 else 0 : Nat) : Int)]) w := by
  have : b = 0 ∨ b = 1 := by omega
  rcases this with rfl | rfl <;> rfl
theorem sub64_row {fn : Func} (hn : fn.name = "math/bits.Sub64") (ho : fn.origin = "") : (fn.name == "runtime.NumGoroutine") = false ∧ Extern.findNext fn = none ∧ Extern.find fn = some sub64E := by
  obtain ⟨name, origin⟩ := fn
  simp only at hn ho
  subst hn; subst ho
  exact ⟨by kernel_rfl, by kernel_rfl, by kernel_rfl⟩
/-- The difference x - y - b and its borrow. -/
theorem sub64_x {R : Env} (h : R.Xn 286 "math/bits.Sub64") {x y b : Int} (hx : inI .u64 x) (hy : inI .u64 y) (hb : 0 ≤ b ∧ b ≤ 1) :
    XCalls R.P (R.ft 286) [.int .u64 x, .int .u64 y, .int .u64 b] (.tup [.int .u64 ((x - y - b) % 18446744073709551616), .int .u64 (if x < y + b then 1 else 0)]) := by
  obtain ⟨fn, hf, hn, ho, hbd⟩ := h.fn
  obtain ⟨r1, r2, r3⟩ := sub64_row hn ho
  have hx : 0 ≤ x ∧ x ≤ 18446744073709551615 := hx
  have hy : 0 ≤ y ∧ y ≤ 18446744073709551615 := hy
  intro ρ L I N w vs hv
  obtain ⟨hl, hr⟩ := hv
  obtain ⟨v0, v1, v2, rfl⟩ : ∃ v0 v1 v2, vs = [v0, v1, v2] := by
    match vs, hl with
    | [a, b, c], _ => exact ⟨a, b, c, rfl⟩
  have e0 : Rep ρ L I w N (.int .u64 x) v0 := hr 0 (by simp)
  have e1 : Rep ρ L I w N (.int .u64 y) v1 := hr 1 (by simp)
  have e2 : Rep ρ L I w N (.int .u64 b) v2 := hr 2 (by simp)
  cases e0; cases e1; cases e2
  obtain ⟨X, rfl⟩ := Int.eq_ofNat_of_zero_le hx.1
  obtain ⟨Y, rfl⟩ := Int.eq_ofNat_of_zero_le hy.1
  obtain ⟨B, rfl⟩ := Int.eq_ofNat_of_zero_le hb.1
  refine ⟨_, by rw [run_callFunc_extern hf r1 hbd r2 r3, show ([Value.int .u64 (X : Int), .int .u64 (Y : Int), .int .u64 (B : Int)].toArray) = #[Value.int .u64 (X : Int), .int .u64 (Y : Int), .int .u64 (B : Int)] from rfl, sub64_run X Y B (by omega)]; rfl, ?_⟩
  have q1 : ((X : Int) - Y - B) % 18446744073709551616 = (((X + 18446744073709551616 - Y - B) % 18446744073709551616 : Nat) : Int) := by omega
  have q2 : (if (X : Int) < Y + B then (1 : Int) else 0) = ((if X < Y + B then 1 else 0 : Nat) : Int) := by
    by_cases hc : X < Y + B
    · rw [if_pos hc, if_pos (by omega)]; rfl
    · rw [if_neg hc, if_neg (by omega)]; rfl
  rw [q1, q2]
  refine Rep.tup _ _ rfl ?_
  intro j hj
  match j, hj with
  | 0, _ => exact Rep.int _ _
  | 1, _ => exact Rep.int _ _
end Go.UM

/- Package wide. -/





namespace Go.UM
open Go.AM
set_option maxRecDepth 4000

/-- A number of 128 bits, as the program keeps it. -/
def wrow (v : Int) : List AV := [.int .i64 (whi v), .int .u64 (wlo v)]
def sgn (s : Bool) (P : Int) : Int := bif s then -P else P

theorem size_c {R : Env} (h : N275 R) {n : Int} (hn : I64 n) : R.Pc 275 [.int .i64 n] (.tup [.int .u64 (absI n), .bool (decide (n < 0))]) :=
  h.o275.enter 60 rfl fun X bb hfit hp => by
    rw [i64_iff] at hn
    refine sh ?_
    refine cS (fun h1 => ?_) (fun h1 => ?_)
    · refine sh ?_
      refine iwr_any ?_
      refine sh ?_
      refine iwr_any ?_
      refine sh ?_
      refine rT ?_
      all_goals repeat' (first | exact True.intro | refine And.intro ?_ ?_ | (intro _u; clear _u) | (with_reducible first | refine eM ?_ ?_ | refine eF ?_ ?_ ?_ | refine eN ?_ | refine eL ?_ ?_ ?_ | refine eA ?_ ?_ | refine IWk.mk ⟨_, hp, rfl⟩ ?_ ?_) | refine IWk.mk ⟨_, hp, rfl⟩ ?_ ?_)
      all_goals first | with_reducible rfl | omega | exact Or.inl (by decide) | (simp; done) | rfl | skip
      all_goals first | (rw [wr_u64, wr_u64, absI, if_pos h1]; omega) | (simp; omega)
    · refine sh ?_
      refine rT ?_
      all_goals repeat' (first | exact True.intro | refine And.intro ?_ ?_ | (intro _u; clear _u) | (with_reducible first | refine eM ?_ ?_ | refine eF ?_ ?_ ?_ | refine eN ?_ | refine eL ?_ ?_ ?_ | refine eA ?_ ?_ | refine IWk.mk ⟨_, hp, rfl⟩ ?_ ?_) | refine IWk.mk ⟨_, hp, rfl⟩ ?_ ?_)
      all_goals first | with_reducible rfl | omega | exact Or.inl (by decide) | (simp; done) | rfl | skip
      all_goals first | (rw [absI, if_neg (by omega)]) | (simp; omega)

theorem mulhi_e {x y : Int} (hx : U64 x) (hy : U64 y) : wr .u64 (wr .u64 (wr .u64 (shrI .u64 x 32 * shrI .u64 y 32) + shrI .u64 (wr .u64 (wr .u64 (shrI .u64 x 32 * bit2 .and .u64 y 4294967295) + shrI .u64 (wr .u64 (bit2 .and .u64 x 4294967295 * bit2 .and .u64 y 4294967295)) 32)) 32) +
      shrI .u64 (wr .u64 (bit2 .and .u64 (wr .u64 (wr .u64 (shrI .u64 x 32 * bit2 .and .u64 y 4294967295) + shrI .u64 (wr .u64 (bit2 .and .u64 x 4294967295 * bit2 .and .u64 y 4294967295)) 32)) 4294967295 + wr .u64 (bit2 .and .u64 x 4294967295 * shrI .u64 y 32))) 32) = whi (x * y) := by
  have k := fun v => shr32 (x := v) .u64 (by decide)
  simp only [k, and_low hx, and_low hy]
  rw [and_low (wr_inI .u64 _)]
  obtain ⟨p1, p2, p3, p4, e⟩ := mul64_e hx hy
  rw [e]
  simp only [wr_u64, whi]
  generalize x % 4294967296 * (y % 4294967296) = A at *
  generalize x / 4294967296 * (y % 4294967296) = B at *
  generalize x % 4294967296 * (y / 4294967296) = C at *
  generalize x / 4294967296 * (y / 4294967296) = D at *
  omega
theorem mul64_c {R : Env} (h : N276 R) {x y : Int} (hx : U64 x) (hy : U64 y) : R.Pc 276 [.int .u64 x, .int .u64 y] (.tup [.int .u64 (whi (x * y)), .int .u64 (wlo (x * y))]) :=
  h.o276.enter 60 rfl fun X bb hfit hp => by
    refine sh ?_
    refine iwr_any ?_
    refine sh ?_
    refine iwr_any ?_
    refine sh ?_
    refine iwr_any ?_
    refine sh ?_
    refine iwr_any ?_
    refine sh ?_
    refine iwr_any ?_
    refine sh ?_
    refine iwr_any ?_
    refine sh ?_
    refine iwr_any ?_
    refine sh ?_
    refine iwr_any ?_
    refine sh ?_
    refine iwr_any ?_
    refine sh ?_
    refine rT ?_
    all_goals repeat' (first | exact True.intro | refine And.intro ?_ ?_ | (intro _u; clear _u) | (with_reducible first | refine eM ?_ ?_ | refine eF ?_ ?_ ?_ | refine eN ?_ | refine eL ?_ ?_ ?_ | refine eA ?_ ?_ | refine IWk.mk ⟨_, hp, rfl⟩ ?_ ?_) | refine IWk.mk ⟨_, hp, rfl⟩ ?_ ?_)
    all_goals first | with_reducible rfl | omega | exact Or.inl (by decide) | (simp; done) | rfl | skip
    all_goals first | exact mulhi_e hx hy | (rw [wr_u64]; rfl)

theorem turned_c {R : Env} (h : N283 R) {P : Int} (hP : 0 ≤ P ∧ P ≤ 85070591730234615865843651857942052864) : R.Pc 283 [.int .u64 (whi P), .int .u64 (wlo P)] (.tup [.int .u64 (whi (-P) % 18446744073709551616), .int .u64 (wlo (-P))]) :=
  h.o283.enter 60 rfl fun X bb hfit hp => by
    refine sh ?_
    refine ICallX.mk ⟨_, sub64_x h.n286.x286 (x := 0) (b := 0) ⟨by omega, by omega⟩ (wlo_in P) ⟨by omega, by omega⟩, ?_⟩
    refine sh ?_
    refine ICallX.mk ⟨_, sub64_x h.n286.x286 (x := 0) ⟨by omega, by omega⟩ (y := whi P) ⟨by unfold whi; omega, by unfold whi; omega⟩ ⟨by split <;> omega, by split <;> omega⟩, ?_⟩
    refine sh ?_
    refine rT ?_
    all_goals repeat' (first | exact True.intro | refine And.intro ?_ ?_ | (intro _u; clear _u) | (with_reducible first | refine eM ?_ ?_ | refine eF ?_ ?_ ?_ | refine eN ?_ | refine eL ?_ ?_ ?_ | refine eA ?_ ?_ | refine IWk.mk ⟨_, hp, rfl⟩ ?_ ?_) | refine IWk.mk ⟨_, hp, rfl⟩ ?_ ?_)
    all_goals first | with_reducible rfl | omega | exact Or.inl (by decide) | (simp; done) | rfl | skip
    all_goals first | (unfold wlo; omega) | (unfold whi wlo; split <;> omega)

theorem signed_c {R : Env} (h : N277 R) {P : Int} (hP : 0 ≤ P ∧ P ≤ 85070591730234615865843651857942052864) (s : Bool) : R.Pc 277 [.int .u64 (whi P), .int .u64 (wlo P), .bool s] (.tup [.agg (wrow (sgn s P)), .bool true]) :=
  h.o277.enter 60 rfl fun X bb hfit hp => by
    have i1 := whi_in (v := P) ⟨by omega, hP.2⟩
    have i2 := whi_in (v := -P) ⟨by omega, by omega⟩
    cases s with
    | false =>
      have i3 : 0 ≤ whi P := by unfold whi; omega
      refine sh ?_
      refine acnd_t (by (simp; omega)) ?_
      refine sh ?_
      exact rT
    | true =>
      refine sh ?_
      refine ICall.pure h.n283.o283.hb (turned_c h.n283 hP) rfl ?_
      refine sh ?_
      refine iwr_eq (m := whi (-P)) (by rw [wr_i64]; omega) ?_
      by_cases h0 : P = 0
      · subst h0
        refine sh ?_
        refine acnd_f (by (simp [whi])) ?_
        refine sh ?_
        refine rT ?_
        all_goals repeat' (first | exact True.intro | refine And.intro ?_ ?_ | (intro _u; clear _u) | (with_reducible first | refine eM ?_ ?_ | refine eF ?_ ?_ ?_ | refine eN ?_ | refine eL ?_ ?_ ?_ | refine eA ?_ ?_ | refine IWk.mk ⟨_, hp, rfl⟩ ?_ ?_) | refine IWk.mk ⟨_, hp, rfl⟩ ?_ ?_)
        all_goals first | with_reducible rfl | omega | exact Or.inl (by decide) | (simp; done) | rfl | skip
        all_goals first | rfl | decide
      · refine sh ?_
        refine acnd_t (by (simp; unfold whi; omega)) ?_
        refine sh ?_
        exact rT

theorem wide_of_c {R : Env} (h : N287 R) {n : Int} (hn : I64 n) : R.Pc 287 [.int .i64 n] (.agg (wrow n)) :=
  h.o287.enter 60 rfl fun X bb hfit hp => by
    rw [i64_iff] at hn
    refine sh ?_
    refine iwr_any ?_
    refine sh ?_
    refine rT ?_
    all_goals repeat' (first | exact True.intro | refine And.intro ?_ ?_ | (intro _u; clear _u) | (with_reducible first | refine eM ?_ ?_ | refine eF ?_ ?_ ?_ | refine eN ?_ | refine eL ?_ ?_ ?_ | refine eA ?_ ?_ | refine IWk.mk ⟨_, hp, rfl⟩ ?_ ?_) | refine IWk.mk ⟨_, hp, rfl⟩ ?_ ?_)
    all_goals first | with_reducible rfl | omega | exact Or.inl (by decide) | (simp; done) | rfl | skip
    all_goals first | (rw [wr_u64]; rfl) | (rw [shr63 .i64 (by decide)]; unfold whi; omega)
end Go.UM

/- Package fix, and the document's numbers (02). -/



namespace Go.UM
open Go.AM
set_option maxRecDepth 4000

theorem sgn_abs (a b : Int) : sgn (decide (a < 0) != decide (b < 0)) (absI a * absI b) = a * b := by
  rw [mul_abs a b]; unfold sgn
  cases (decide (a < 0) != decide (b < 0)) <;> simp
theorem abs_prod {a b : Int} (ha : I64 a) (hb : I64 b) : 0 ≤ absI a * absI b ∧ absI a * absI b ≤ 85070591730234615865843651857942052864 := by
  have := abs_mul_le (absI_in ha) (absI_in hb)
  omega
theorem abs_u64 {a : Int} (ha : I64 a) : U64 (absI a) := by have := absI_in ha; rw [u64_iff]; omega

theorem mul_c {R : Env} (h : N264 R) {a b : Int} (ha : I64 a) (hb : I64 b) : R.Pc 264 [.int .i64 a, .int .i64 b] (.agg (wrow (a * b))) :=
  h.o264.enter 60 rfl fun X bb hfit hp => by
    refine sh ?_
    refine ICall.pure h.n275.o275.hb (size_c h.n275 ha) rfl ?_
    refine sh ?_
    refine ICall.pure h.n275.o275.hb (size_c h.n275 hb) rfl ?_
    refine sh ?_
    refine ICall.pure h.n276.o276.hb (mul64_c h.n276 (abs_u64 ha) (abs_u64 hb)) rfl ?_
    have c := signed_c h.n277 (abs_prod ha hb) (decide (a < 0) != decide (b < 0))
    rw [sgn_abs] at c
    refine sh ?_
    refine ICall.pure h.n277.o277.hb c rfl ?_
    refine sh ?_
    exact rT

theorem int_y {R : Env} (h : N274 R) {v : Int} (hv : I64 v) : R.Pc 274 [.agg (wrow v)] (.tup [.int .i64 v, .bool true]) :=
  h.o274.enter 60 rfl fun X bb hfit hp => by
    rw [i64_iff] at hv
    have h2 := wlo_in v
    refine sh ?_
    refine iwr_eq (m := v) (by rw [wr_i64]; unfold wlo; omega) ?_
    refine sh ?_
    refine acnd_f (by (rw [shr63 .i64 (by decide)]; simp; unfold whi; omega)) ?_
    refine sh ?_
    exact rT

theorem int_n {R : Env} (h : N274 R) {v : Int} (hv : W126 v) (hn : ¬ I64 v) : R.Pc 274 [.agg (wrow v)] (.tup [.int .i64 0, .bool false]) :=
  h.o274.enter 60 rfl fun X bb hfit hp => by
    have h1 := whi_in hv
    have h2 := wlo_in v
    rw [i64_iff] at hn
    refine sh ?_
    refine iwr_any ?_
    refine sh ?_
    refine acnd_t (by (rw [shr63 .i64 (by decide), wr_i64]; simp; unfold whi wlo; omega)) ?_
    refine sh ?_
    exact rT

theorem near_c {R : Env} (h : N265 R) {v : Int} (hv : W126 v) : R.Pc 265 [.agg (wrow v)] (.int .i64 (sat v)) :=
  h.o265.enter 60 rfl fun X bb hfit hp => by
    by_cases hi : I64 v
    · refine sh ?_
      refine ICall.pure h.n274.o274.hb (int_y h.n274 hi) rfl ?_
      refine sh ?_
      refine rT ?_
      all_goals repeat' (first | exact True.intro | refine And.intro ?_ ?_ | (intro _u; clear _u) | (with_reducible first | refine eM ?_ ?_ | refine eF ?_ ?_ ?_ | refine eN ?_ | refine eL ?_ ?_ ?_ | refine eA ?_ ?_ | refine IWk.mk ⟨_, hp, rfl⟩ ?_ ?_) | refine IWk.mk ⟨_, hp, rfl⟩ ?_ ?_)
      all_goals first | with_reducible rfl | omega | exact Or.inl (by decide) | (simp; done) | rfl | skip
      all_goals exact (sat_id hi).symm
    · have hi2 := hi
      rw [i64_iff] at hi2
      refine sh ?_
      refine ICall.pure h.n274.o274.hb (int_n h.n274 hv hi) rfl ?_
      refine sh ?_
      refine cS (fun h1 => ?_) (fun h1 => ?_)
      · have h2 : v < 0 := by unfold whi at h1; omega
        refine sh ?_
        refine rT ?_
        all_goals repeat' (first | exact True.intro | refine And.intro ?_ ?_ | (intro _u; clear _u) | (with_reducible first | refine eM ?_ ?_ | refine eF ?_ ?_ ?_ | refine eN ?_ | refine eL ?_ ?_ ?_ | refine eA ?_ ?_ | refine IWk.mk ⟨_, hp, rfl⟩ ?_ ?_) | refine IWk.mk ⟨_, hp, rfl⟩ ?_ ?_)
        all_goals first | with_reducible rfl | omega | exact Or.inl (by decide) | (simp; done) | rfl | skip
        all_goals (unfold sat; rw [if_neg (by omega), if_pos (by omega)])
      · have h2 : 0 ≤ v := by unfold whi at h1; omega
        refine sh ?_
        refine rT ?_
        all_goals repeat' (first | exact True.intro | refine And.intro ?_ ?_ | (intro _u; clear _u) | (with_reducible first | refine eM ?_ ?_ | refine eF ?_ ?_ ?_ | refine eN ?_ | refine eL ?_ ?_ ?_ | refine eA ?_ ?_ | refine IWk.mk ⟨_, hp, rfl⟩ ?_ ?_) | refine IWk.mk ⟨_, hp, rfl⟩ ?_ ?_)
        all_goals first | with_reducible rfl | omega | exact Or.inl (by decide) | (simp; done) | rfl | skip
        all_goals (unfold sat; rw [if_pos (by omega)])

theorem or_shift' {hi lo : Int} (hh : 0 ≤ hi ∧ hi ≤ 4294967295) (hl : 0 ≤ lo ∧ lo ≤ 4294967295) : bit2 .or .u64 lo (hi * 4294967296) = hi * 4294967296 + lo := by
  rw [← or_shift hh hl, or_u64 ⟨by omega, by omega⟩ ⟨by omega, by omega⟩, or_u64 ⟨by omega, by omega⟩ ⟨by omega, by omega⟩, Nat.or_comm]
theorem shr_c {R : Env} (h : N285 R) {v : Int} (hv : W126 v) : R.Pc 285 [.agg (wrow v), .int .i64 32] (.agg (wrow (v / 4294967296))) :=
  h.o285.enter 60 rfl fun X bb hfit hp => by
    have h1 := whi_in hv
    have h2 := wlo_in v
    refine sh ?_
    refine acnd_f (by decide) ?_
    refine sh ?_
    refine acnd_f (by decide) ?_
    have e1 : shrI .i64 (whi v) (max 32 0) = whi (v / 4294967296) := by rw [show max (32 : Int) 0 = 32 from rfl, shr32 .i64 (by decide)]; unfold whi; omega
    have e2 : bit2 .or .u64 (shrI .u64 (wlo v) (max 32 0)) (shlI .u64 (wr .u64 (whi v)) (64 - max 32 0)) = wlo (v / 4294967296) := by
      rw [show max (32 : Int) 0 = 32 from rfl, shr32 .u64 (by decide)]
      have e : shlI .u64 (wr .u64 (whi v)) (64 - 32) = (whi v % 4294967296) * 4294967296 := by
        rw [show (64 - 32 : Int) = 32 from rfl, shl32, wr_u64]; omega
      rw [e, or_shift' (by omega) (by omega)]
      unfold whi wlo; omega
    refine sh ?_
    refine iwr_any ?_
    refine sh ?_
    refine rT ?_
    all_goals repeat' (first | exact True.intro | refine And.intro ?_ ?_ | (intro _u; clear _u) | (with_reducible first | refine eM ?_ ?_ | refine eF ?_ ?_ ?_ | refine eN ?_ | refine eL ?_ ?_ ?_ | refine eA ?_ ?_ | refine IWk.mk ⟨_, hp, rfl⟩ ?_ ?_) | refine IWk.mk ⟨_, hp, rfl⟩ ?_ ?_)
    all_goals first | with_reducible rfl | omega | exact Or.inl (by decide) | (simp; done) | rfl | skip
    all_goals first | exact e1 | exact e2

/-- The sum of all, from a number on. -/
def sums (s : Int) (l : List Int) : Int := l.foldl tadd s
theorem fadd_c {R : Env} (h : N267 R) (l : List Int) (hl : l.length ≤ 1000) (hi : ∀ x ∈ l, I64 x) : R.Pc 267 [.isl 1 (slcK .i64 l)] (.int .i64 (sums 0 l)) :=
  h.o267.enter 100 rfl fun X bb hfit hp => by
    refine sh ?_
    refine lPa 100 (fun s : Nat × Int => s.1 ≤ l.length ∧ I64 s.2 ∧ sums 0 (l.take s.1) = s.2) (fun s => ⟨[(3, .int .i64 s.2), (7, .isl 1 (slcK .i64 l)), (8, .int .i64 l.length), (9, .int .i64 s.1)], [], 0⟩) (fun s => l.length - s.1) ((0, 0)) ?_ ?_
    · exact ⟨Nat.zero_le _, ⟨by decide, by decide⟩, rfl⟩
    · rintro ⟨k, s⟩ ⟨h1, h2, h3⟩
      dsimp only at h1 h2 h3 ⊢
      refine sh ?_
      refine cS (fun h4 => ?_) (fun h4 => ?_)
      · obtain ⟨x, hx⟩ : ∃ u_, l[k]? = some u_ := ⟨_, List.getElem?_eq_getElem (by first | omega | (simp <;> omega))⟩
        refine sh ?_
        refine eget_map hx ?_
        have ix := hi x (List.mem_of_getElem? hx)
        have hnx : sums 0 (l.take (k + 1)) = tadd s x := by rw [take_succ_get hx, sums, List.foldl_append]; unfold sums at h3; rw [h3]; rfl
        rw [i64_iff] at h2 ix
        refine sh ?_
        refine iwr_any ?_
        refine sh ?_
        refine cS (fun a1 => ?_) (fun a1 => ?_)
        · refine sh ?_
          refine cS (fun a2 => ?_) (fun a2 => ?_)
          · refine sh ?_
            refine cS (fun a3 => ?_) (fun a3 => ?_)
            · refine sh ?_
              refine nX ((k + 1, tadd s x)) ?_ ?_ ⟨_, hp, rfl⟩ ?_ ?_
              · exact ⟨by omega, tadd_in s x, hnx⟩
              · omega
              · all_goals repeat' (first | exact True.intro | refine And.intro ?_ ?_ | (intro _u; clear _u) | (with_reducible first | refine eM ?_ ?_ | refine eF ?_ ?_ ?_ | refine eN ?_ | refine eL ?_ ?_ ?_ | refine eA ?_ ?_ | refine IWk.mk ⟨_, hp, rfl⟩ ?_ ?_) | refine IWk.mk ⟨_, hp, rfl⟩ ?_ ?_)
                all_goals first | with_reducible rfl | omega | exact Or.inl (by decide) | (simp; done) | rfl | skip
                all_goals (unfold tadd sat; simp only [wr_i64] at *; split <;> first | omega | (split <;> omega))
              · all_goals repeat' (first | exact True.intro | refine And.intro ?_ ?_ | (intro _u; clear _u) | (with_reducible first | refine eM ?_ ?_ | refine eF ?_ ?_ ?_ | refine eN ?_ | refine eL ?_ ?_ ?_ | refine eA ?_ ?_ | refine IWk.mk ⟨_, hp, rfl⟩ ?_ ?_) | refine IWk.mk ⟨_, hp, rfl⟩ ?_ ?_)
                all_goals first | with_reducible rfl | omega | exact Or.inl (by decide) | (simp; done) | rfl | skip
            · refine sh ?_
              refine acnd_f (by (simp; omega)) ?_
              refine sh ?_
              refine nX ((k + 1, tadd s x)) ?_ ?_ ⟨_, hp, rfl⟩ ?_ ?_
              · exact ⟨by omega, tadd_in s x, hnx⟩
              · omega
              · all_goals repeat' (first | exact True.intro | refine And.intro ?_ ?_ | (intro _u; clear _u) | (with_reducible first | refine eM ?_ ?_ | refine eF ?_ ?_ ?_ | refine eN ?_ | refine eL ?_ ?_ ?_ | refine eA ?_ ?_ | refine IWk.mk ⟨_, hp, rfl⟩ ?_ ?_) | refine IWk.mk ⟨_, hp, rfl⟩ ?_ ?_)
                all_goals first | with_reducible rfl | omega | exact Or.inl (by decide) | (simp; done) | rfl | skip
                all_goals (unfold tadd sat; simp only [wr_i64] at *; split <;> first | omega | (split <;> omega))
              · all_goals repeat' (first | exact True.intro | refine And.intro ?_ ?_ | (intro _u; clear _u) | (with_reducible first | refine eM ?_ ?_ | refine eF ?_ ?_ ?_ | refine eN ?_ | refine eL ?_ ?_ ?_ | refine eA ?_ ?_ | refine IWk.mk ⟨_, hp, rfl⟩ ?_ ?_) | refine IWk.mk ⟨_, hp, rfl⟩ ?_ ?_)
                all_goals first | with_reducible rfl | omega | exact Or.inl (by decide) | (simp; done) | rfl | skip
          · refine sh ?_
            refine acnd_f (by (simp; omega)) ?_
            refine sh ?_
            refine nX ((k + 1, tadd s x)) ?_ ?_ ⟨_, hp, rfl⟩ ?_ ?_
            · exact ⟨by omega, tadd_in s x, hnx⟩
            · omega
            · all_goals repeat' (first | exact True.intro | refine And.intro ?_ ?_ | (intro _u; clear _u) | (with_reducible first | refine eM ?_ ?_ | refine eF ?_ ?_ ?_ | refine eN ?_ | refine eL ?_ ?_ ?_ | refine eA ?_ ?_ | refine IWk.mk ⟨_, hp, rfl⟩ ?_ ?_) | refine IWk.mk ⟨_, hp, rfl⟩ ?_ ?_)
              all_goals first | with_reducible rfl | omega | exact Or.inl (by decide) | (simp; done) | rfl | skip
              all_goals (unfold tadd sat; simp only [wr_i64] at *; split <;> first | omega | (split <;> omega))
            · all_goals repeat' (first | exact True.intro | refine And.intro ?_ ?_ | (intro _u; clear _u) | (with_reducible first | refine eM ?_ ?_ | refine eF ?_ ?_ ?_ | refine eN ?_ | refine eL ?_ ?_ ?_ | refine eA ?_ ?_ | refine IWk.mk ⟨_, hp, rfl⟩ ?_ ?_) | refine IWk.mk ⟨_, hp, rfl⟩ ?_ ?_)
              all_goals first | with_reducible rfl | omega | exact Or.inl (by decide) | (simp; done) | rfl | skip
        · refine sh ?_
          refine cS (fun b1 => ?_) (fun b1 => ?_)
          · refine sh ?_
            refine cS (fun b2 => ?_) (fun b2 => ?_)
            · refine sh ?_
              refine cS (fun b3 => ?_) (fun b3 => ?_)
              · refine sh ?_
                refine nX ((k + 1, tadd s x)) ?_ ?_ ⟨_, hp, rfl⟩ ?_ ?_
                · exact ⟨by omega, tadd_in s x, hnx⟩
                · omega
                · all_goals repeat' (first | exact True.intro | refine And.intro ?_ ?_ | (intro _u; clear _u) | (with_reducible first | refine eM ?_ ?_ | refine eF ?_ ?_ ?_ | refine eN ?_ | refine eL ?_ ?_ ?_ | refine eA ?_ ?_ | refine IWk.mk ⟨_, hp, rfl⟩ ?_ ?_) | refine IWk.mk ⟨_, hp, rfl⟩ ?_ ?_)
                  all_goals first | with_reducible rfl | omega | exact Or.inl (by decide) | (simp; done) | rfl | skip
                  all_goals (unfold tadd sat; simp only [wr_i64] at *; split <;> first | omega | (split <;> omega))
                · all_goals repeat' (first | exact True.intro | refine And.intro ?_ ?_ | (intro _u; clear _u) | (with_reducible first | refine eM ?_ ?_ | refine eF ?_ ?_ ?_ | refine eN ?_ | refine eL ?_ ?_ ?_ | refine eA ?_ ?_ | refine IWk.mk ⟨_, hp, rfl⟩ ?_ ?_) | refine IWk.mk ⟨_, hp, rfl⟩ ?_ ?_)
                  all_goals first | with_reducible rfl | omega | exact Or.inl (by decide) | (simp; done) | rfl | skip
              · refine sh ?_
                refine nX ((k + 1, tadd s x)) ?_ ?_ ⟨_, hp, rfl⟩ ?_ ?_
                · exact ⟨by omega, tadd_in s x, hnx⟩
                · omega
                · all_goals repeat' (first | exact True.intro | refine And.intro ?_ ?_ | (intro _u; clear _u) | (with_reducible first | refine eM ?_ ?_ | refine eF ?_ ?_ ?_ | refine eN ?_ | refine eL ?_ ?_ ?_ | refine eA ?_ ?_ | refine IWk.mk ⟨_, hp, rfl⟩ ?_ ?_) | refine IWk.mk ⟨_, hp, rfl⟩ ?_ ?_)
                  all_goals first | with_reducible rfl | omega | exact Or.inl (by decide) | (simp; done) | rfl | skip
                  all_goals (unfold tadd sat; simp only [wr_i64] at *; split <;> first | omega | (split <;> omega))
                · all_goals repeat' (first | exact True.intro | refine And.intro ?_ ?_ | (intro _u; clear _u) | (with_reducible first | refine eM ?_ ?_ | refine eF ?_ ?_ ?_ | refine eN ?_ | refine eL ?_ ?_ ?_ | refine eA ?_ ?_ | refine IWk.mk ⟨_, hp, rfl⟩ ?_ ?_) | refine IWk.mk ⟨_, hp, rfl⟩ ?_ ?_)
                  all_goals first | with_reducible rfl | omega | exact Or.inl (by decide) | (simp; done) | rfl | skip
            · refine sh ?_
              refine nX ((k + 1, tadd s x)) ?_ ?_ ⟨_, hp, rfl⟩ ?_ ?_
              · exact ⟨by omega, tadd_in s x, hnx⟩
              · omega
              · all_goals repeat' (first | exact True.intro | refine And.intro ?_ ?_ | (intro _u; clear _u) | (with_reducible first | refine eM ?_ ?_ | refine eF ?_ ?_ ?_ | refine eN ?_ | refine eL ?_ ?_ ?_ | refine eA ?_ ?_ | refine IWk.mk ⟨_, hp, rfl⟩ ?_ ?_) | refine IWk.mk ⟨_, hp, rfl⟩ ?_ ?_)
                all_goals first | with_reducible rfl | omega | exact Or.inl (by decide) | (simp; done) | rfl | skip
                all_goals (unfold tadd sat; simp only [wr_i64] at *; split <;> first | omega | (split <;> omega))
              · all_goals repeat' (first | exact True.intro | refine And.intro ?_ ?_ | (intro _u; clear _u) | (with_reducible first | refine eM ?_ ?_ | refine eF ?_ ?_ ?_ | refine eN ?_ | refine eL ?_ ?_ ?_ | refine eA ?_ ?_ | refine IWk.mk ⟨_, hp, rfl⟩ ?_ ?_) | refine IWk.mk ⟨_, hp, rfl⟩ ?_ ?_)
                all_goals first | with_reducible rfl | omega | exact Or.inl (by decide) | (simp; done) | rfl | skip
          · refine sh ?_
            refine nX ((k + 1, tadd s x)) ?_ ?_ ⟨_, hp, rfl⟩ ?_ ?_
            · exact ⟨by omega, tadd_in s x, hnx⟩
            · omega
            · all_goals repeat' (first | exact True.intro | refine And.intro ?_ ?_ | (intro _u; clear _u) | (with_reducible first | refine eM ?_ ?_ | refine eF ?_ ?_ ?_ | refine eN ?_ | refine eL ?_ ?_ ?_ | refine eA ?_ ?_ | refine IWk.mk ⟨_, hp, rfl⟩ ?_ ?_) | refine IWk.mk ⟨_, hp, rfl⟩ ?_ ?_)
              all_goals first | with_reducible rfl | omega | exact Or.inl (by decide) | (simp; done) | rfl | skip
              all_goals (unfold tadd sat; simp only [wr_i64] at *; split <;> first | omega | (split <;> omega))
            · all_goals repeat' (first | exact True.intro | refine And.intro ?_ ?_ | (intro _u; clear _u) | (with_reducible first | refine eM ?_ ?_ | refine eF ?_ ?_ ?_ | refine eN ?_ | refine eL ?_ ?_ ?_ | refine eA ?_ ?_ | refine IWk.mk ⟨_, hp, rfl⟩ ?_ ?_) | refine IWk.mk ⟨_, hp, rfl⟩ ?_ ?_)
              all_goals first | with_reducible rfl | omega | exact Or.inl (by decide) | (simp; done) | rfl | skip
      · rw [List.take_of_length_le (by omega)] at h3
        refine sh ?_
        refine rT ?_
        all_goals repeat' (first | exact True.intro | refine And.intro ?_ ?_ | (intro _u; clear _u) | (with_reducible first | refine eM ?_ ?_ | refine eF ?_ ?_ ?_ | refine eN ?_ | refine eL ?_ ?_ ?_ | refine eA ?_ ?_ | refine IWk.mk ⟨_, hp, rfl⟩ ?_ ?_) | refine IWk.mk ⟨_, hp, rfl⟩ ?_ ?_)
        all_goals first | with_reducible rfl | omega | exact Or.inl (by decide) | (simp; done) | rfl | skip
        all_goals exact h3.symm

/-- The product of two. -/
theorem fmul_c {R : Env} (h : N284 R) {a b : Int} (ha : I64 a) (hb : I64 b) : R.Pc 284 [.isl 1 (slcK .i64 [a, b])] (.int .i64 (tmul a b)) :=
  h.o284.enter 100 rfl fun X bb hfit hp => by
    have hP := prod_in ha hb
    refine sh ?_
    refine ILoop.one 100 ?_
    refine sh ?_
    refine acnd_t (by simp) ?_
    refine sh ?_
    refine eget_map (show ([a, b] : List Int)[0]? = some a from rfl) ?_
    refine sh ?_
    refine acnd_t (by decide) ?_
    refine sh ?_
    refine ILoop.one 100 ?_
    refine sh ?_
    refine acnd_t (by simp) ?_
    refine sh ?_
    refine eget_map (show ([a, b] : List Int)[1]? = some b from rfl) ?_
    refine sh ?_
    refine acnd_f (by decide) ?_
    refine sh ?_
    refine ICall.pure h.n264.o264.hb (mul_c h.n264 ha hb) rfl ?_
    refine sh ?_
    refine ICall.pure h.n285.o285.hb (shr_c h.n285 hP) rfl ?_
    refine sh ?_
    refine ICall.pure h.n265.o265.hb (near_c h.n265 (v := a * b / 4294967296) (by omega)) rfl ?_
    refine sh ?_
    refine ILoop.one 100 ?_
    refine sh ?_
    refine acnd_f (by simp) ?_
    refine sh ?_
    exact rT

def tsub (a b : Int) : Int := sat (a - b)
theorem fsub_c {R : Env} (h : N281 R) {a b : Int} (ha : I64 a) (hb : I64 b) : R.Pc 281 [.int .i64 a, .int .i64 b] (.int .i64 (tsub a b)) :=
  h.o281.enter 100 rfl fun X bb hfit hp => by
    rw [i64_iff] at ha hb
    refine sh ?_
    refine iwr_any ?_
    refine sh ?_
    refine cS (fun a1 => ?_) (fun a1 => ?_)
    · refine sh ?_
      refine cS (fun a2 => ?_) (fun a2 => ?_)
      · refine sh ?_
        refine cS (fun a3 => ?_) (fun a3 => ?_)
        · refine sh ?_
          refine rT ?_
          all_goals repeat' (first | exact True.intro | refine And.intro ?_ ?_ | (intro _u; clear _u) | (with_reducible first | refine eM ?_ ?_ | refine eF ?_ ?_ ?_ | refine eN ?_ | refine eL ?_ ?_ ?_ | refine eA ?_ ?_ | refine IWk.mk ⟨_, hp, rfl⟩ ?_ ?_) | refine IWk.mk ⟨_, hp, rfl⟩ ?_ ?_)
          all_goals first | with_reducible rfl | omega | exact Or.inl (by decide) | (simp; done) | rfl | skip
          all_goals (unfold tsub sat; simp only [wr_i64] at *; split <;> first | omega | (split <;> omega))
        · refine sh ?_
          refine acnd_f (by (simp; omega)) ?_
          refine sh ?_
          refine rT ?_
          all_goals repeat' (first | exact True.intro | refine And.intro ?_ ?_ | (intro _u; clear _u) | (with_reducible first | refine eM ?_ ?_ | refine eF ?_ ?_ ?_ | refine eN ?_ | refine eL ?_ ?_ ?_ | refine eA ?_ ?_ | refine IWk.mk ⟨_, hp, rfl⟩ ?_ ?_) | refine IWk.mk ⟨_, hp, rfl⟩ ?_ ?_)
          all_goals first | with_reducible rfl | omega | exact Or.inl (by decide) | (simp; done) | rfl | skip
          all_goals (unfold tsub sat; simp only [wr_i64] at *; split <;> first | omega | (split <;> omega))
      · refine sh ?_
        refine acnd_f (by (simp; omega)) ?_
        refine sh ?_
        refine rT ?_
        all_goals repeat' (first | exact True.intro | refine And.intro ?_ ?_ | (intro _u; clear _u) | (with_reducible first | refine eM ?_ ?_ | refine eF ?_ ?_ ?_ | refine eN ?_ | refine eL ?_ ?_ ?_ | refine eA ?_ ?_ | refine IWk.mk ⟨_, hp, rfl⟩ ?_ ?_) | refine IWk.mk ⟨_, hp, rfl⟩ ?_ ?_)
        all_goals first | with_reducible rfl | omega | exact Or.inl (by decide) | (simp; done) | rfl | skip
        all_goals (unfold tsub sat; simp only [wr_i64] at *; split <;> first | omega | (split <;> omega))
    · refine sh ?_
      refine cS (fun b1 => ?_) (fun b1 => ?_)
      · refine sh ?_
        refine cS (fun b2 => ?_) (fun b2 => ?_)
        · refine sh ?_
          refine cS (fun b3 => ?_) (fun b3 => ?_)
          · refine sh ?_
            refine rT ?_
            all_goals repeat' (first | exact True.intro | refine And.intro ?_ ?_ | (intro _u; clear _u) | (with_reducible first | refine eM ?_ ?_ | refine eF ?_ ?_ ?_ | refine eN ?_ | refine eL ?_ ?_ ?_ | refine eA ?_ ?_ | refine IWk.mk ⟨_, hp, rfl⟩ ?_ ?_) | refine IWk.mk ⟨_, hp, rfl⟩ ?_ ?_)
            all_goals first | with_reducible rfl | omega | exact Or.inl (by decide) | (simp; done) | rfl | skip
            all_goals (unfold tsub sat; simp only [wr_i64] at *; split <;> first | omega | (split <;> omega))
          · refine sh ?_
            refine rT ?_
            all_goals repeat' (first | exact True.intro | refine And.intro ?_ ?_ | (intro _u; clear _u) | (with_reducible first | refine eM ?_ ?_ | refine eF ?_ ?_ ?_ | refine eN ?_ | refine eL ?_ ?_ ?_ | refine eA ?_ ?_ | refine IWk.mk ⟨_, hp, rfl⟩ ?_ ?_) | refine IWk.mk ⟨_, hp, rfl⟩ ?_ ?_)
            all_goals first | with_reducible rfl | omega | exact Or.inl (by decide) | (simp; done) | rfl | skip
            all_goals (unfold tsub sat; simp only [wr_i64] at *; split <;> first | omega | (split <;> omega))
        · refine sh ?_
          refine rT ?_
          all_goals repeat' (first | exact True.intro | refine And.intro ?_ ?_ | (intro _u; clear _u) | (with_reducible first | refine eM ?_ ?_ | refine eF ?_ ?_ ?_ | refine eN ?_ | refine eL ?_ ?_ ?_ | refine eA ?_ ?_ | refine IWk.mk ⟨_, hp, rfl⟩ ?_ ?_) | refine IWk.mk ⟨_, hp, rfl⟩ ?_ ?_)
          all_goals first | with_reducible rfl | omega | exact Or.inl (by decide) | (simp; done) | rfl | skip
          all_goals (unfold tsub sat; simp only [wr_i64] at *; split <;> first | omega | (split <;> omega))
      · refine sh ?_
        refine rT ?_
        all_goals repeat' (first | exact True.intro | refine And.intro ?_ ?_ | (intro _u; clear _u) | (with_reducible first | refine eM ?_ ?_ | refine eF ?_ ?_ ?_ | refine eN ?_ | refine eL ?_ ?_ ?_ | refine eA ?_ ?_ | refine IWk.mk ⟨_, hp, rfl⟩ ?_ ?_) | refine IWk.mk ⟨_, hp, rfl⟩ ?_ ?_)
        all_goals first | with_reducible rfl | omega | exact Or.inl (by decide) | (simp; done) | rfl | skip
        all_goals (unfold tsub sat; simp only [wr_i64] at *; split <;> first | omega | (split <;> omega))
theorem fneg_c {R : Env} (h : N270 R) {a : Int} (ha : I64 a) : R.Pc 270 [.int .i64 a] (.int .i64 (sat (-a))) :=
  h.o270.enter 100 rfl fun X bb hfit hp => by
    refine sh ?_
    refine ICall.pure h.n281.o281.hb (fsub_c h.n281 (a := 0) ⟨by decide, by decide⟩ ha) rfl ?_
    refine sh ?_
    refine rT ?_
    all_goals repeat' (first | exact True.intro | refine And.intro ?_ ?_ | (intro _u; clear _u) | (with_reducible first | refine eM ?_ ?_ | refine eF ?_ ?_ ?_ | refine eN ?_ | refine eL ?_ ?_ ?_ | refine eA ?_ ?_ | refine IWk.mk ⟨_, hp, rfl⟩ ?_ ?_) | refine IWk.mk ⟨_, hp, rfl⟩ ?_ ?_)
    all_goals first | with_reducible rfl | omega | exact Or.inl (by decide) | (simp; done) | rfl | skip
    all_goals (unfold tsub; rw [Int.zero_sub])
theorem fabs_c {R : Env} (h : N255 R) {a : Int} (ha : I64 a) : R.Pc 255 [.int .i64 a] (.int .i64 (sizeI a)) :=
  h.o255.enter 100 rfl fun X bb hfit hp => by
    refine sh ?_
    refine ICall.pure h.n270.o270.hb (fneg_c h.n270 ha) rfl ?_
    rw [i64_iff] at ha
    refine sh ?_
    refine rT ?_
    all_goals repeat' (first | exact True.intro | refine And.intro ?_ ?_ | (intro _u; clear _u) | (with_reducible first | refine eM ?_ ?_ | refine eF ?_ ?_ ?_ | refine eN ?_ | refine eL ?_ ?_ ?_ | refine eA ?_ ?_ | refine IWk.mk ⟨_, hp, rfl⟩ ?_ ?_) | refine IWk.mk ⟨_, hp, rfl⟩ ?_ ?_)
    all_goals first | with_reducible rfl | omega | exact Or.inl (by decide) | (simp; done) | rfl | skip
    all_goals (unfold sizeI sat; split <;> split <;> first | omega | (split <;> omega))
theorem fof_c {R : Env} (h : N248 R) {n : Int} (hn : I64 n) : R.Pc 248 [.int .i64 n] (.int .i64 (sat (n * 4294967296))) :=
  h.o248.enter 100 rfl fun X bb hfit hp => by
    have h1 : I64 4294967296 := ⟨by decide, by decide⟩
    refine sh ?_
    refine ICall.pure h.n264.o264.hb (mul_c h.n264 hn h1) rfl ?_
    refine sh ?_
    refine ICall.pure h.n265.o265.hb (near_c h.n265 (prod_in hn h1)) rfl ?_
    refine sh ?_
    exact rT
theorem and_one {x : Int} (h : I64 x) : bit2 .and .i64 x 1 = x % 2 := by
  show wr .i64 (((BitVec.ofInt 64 x &&& BitVec.ofInt 64 1 : BitVec 64).toNat : Nat) : Int) = _
  rw [i64_iff] at h
  have e : (BitVec.ofInt 64 x &&& BitVec.ofInt 64 1 : BitVec 64).toNat = (x % 2).toNat := by
    rw [BitVec.toNat_and, BitVec.toNat_ofInt, BitVec.toNat_ofInt]
    have : ((1 : Int) % ((2 ^ 64 : Nat) : Int)).toNat = 2 ^ 1 - 1 := rfl
    rw [this, Nat.and_two_pow_sub_one_eq_mod]
    omega
  rw [e, wr_i64]; omega
theorem fround_c {R : Env} (h : N260 R) {x : Int} (hx : I64 x) : R.Pc 260 [.int .i64 x] (.int .i64 (rnd x)) :=
  h.o260.enter 100 rfl fun X bb hfit hp => by
    have hx2 := hx
    rw [i64_iff] at hx2
    have e1 : bit2 .and .i64 (shrI .i64 x 31) 1 = x / 2147483648 % 2 := by
      rw [shr31 .i64 (by decide), and_one (by rw [i64_iff]; omega)]
    refine sh ?_
    rw [e1, shr32 .i64 (by decide)]
    refine iwr_in (by simp only [inI]; omega) ?_
    refine sh ?_
    refine rT ?_
    all_goals repeat' (first | exact True.intro | refine And.intro ?_ ?_ | (intro _u; clear _u) | (with_reducible first | refine eM ?_ ?_ | refine eF ?_ ?_ ?_ | refine eN ?_ | refine eL ?_ ?_ ?_ | refine eA ?_ ?_ | refine IWk.mk ⟨_, hp, rfl⟩ ?_ ?_) | refine IWk.mk ⟨_, hp, rfl⟩ ?_ ?_)
    all_goals first | with_reducible rfl | omega | exact Or.inl (by decide) | (simp; done) | rfl | skip
    all_goals (unfold rnd; omega)
end Go.UM

/- Package vec, and the document's vectors (03) and numbers (02). -/



namespace Go.UM
open Go.AM
set_option maxRecDepth 4000

theorem addf_c {R : Env} (h : N263 R) {a b : Int} (ha : I64 a) (hb : I64 b) : R.Pc 263 [.int .i64 a, .int .i64 b] (.int .i64 (tadd a b)) :=
  h.o263.enter 60 rfl fun X bb hfit hp => by
    have c := fadd_c h.n267 [a, b] (by simp) (by intro x hx; simp at hx; rcases hx with rfl | rfl <;> assumption)
    rw [show sums 0 [a, b] = tadd a b by unfold sums; simp [tadd0 ha]] at c
    refine sh ?_
    refine ICall.lend rfl h.n267.o267.hb c ?_ rfl ?_
    · all_goals repeat' (first | exact True.intro | refine And.intro ?_ ?_ | (intro _u; clear _u) | (with_reducible first | refine eM ?_ ?_ | refine eF ?_ ?_ ?_ | refine eN ?_ | refine eL ?_ ?_ ?_ | refine eA ?_ ?_ | refine IWk.mk ⟨_, hp, rfl⟩ ?_ ?_) | refine IWk.mk ⟨_, hp, rfl⟩ ?_ ?_)
      all_goals first | with_reducible rfl | omega | exact Or.inl (by decide) | (simp; done) | rfl | skip
    refine sh ?_
    exact rT
theorem mulf_c {R : Env} (h : N278 R) {a b : Int} (ha : I64 a) (hb : I64 b) : R.Pc 278 [.int .i64 a, .int .i64 b] (.int .i64 (tmul a b)) :=
  h.o278.enter 60 rfl fun X bb hfit hp => by
    refine sh ?_
    refine ICall.lend rfl h.n284.o284.hb (fmul_c h.n284 ha hb) ?_ rfl ?_
    · all_goals repeat' (first | exact True.intro | refine And.intro ?_ ?_ | (intro _u; clear _u) | (with_reducible first | refine eM ?_ ?_ | refine eF ?_ ?_ ?_ | refine eN ?_ | refine eL ?_ ?_ ?_ | refine eA ?_ ?_ | refine IWk.mk ⟨_, hp, rfl⟩ ?_ ?_) | refine IWk.mk ⟨_, hp, rfl⟩ ?_ ?_)
      all_goals first | with_reducible rfl | omega | exact Or.inl (by decide) | (simp; done) | rfl | skip
    refine sh ?_
    exact rT
theorem each_add {R : Env} (h : N262 R) (hf : N263 R) {a b : T3} (ha : a.I) (hb : b.I) : R.Pc 262 [.agg (t3 a), .agg (t3 b), .clo (R.ft 263) []] (.agg (t3 (vadd a b))) :=
  h.o262.enter 60 rfl fun X bb hfit hp => by
    refine sh ?_
    refine ICall.pure hf.o263.hb (addf_c hf ha.1 hb.1) rfl ?_
    refine sh ?_
    refine ICall.pure hf.o263.hb (addf_c hf ha.2.1 hb.2.1) rfl ?_
    refine sh ?_
    refine ICall.pure hf.o263.hb (addf_c hf ha.2.2 hb.2.2) rfl ?_
    refine sh ?_
    exact rT
theorem each_mul {R : Env} (h : N262 R) (hf : N278 R) {a b : T3} (ha : a.I) (hb : b.I) : R.Pc 262 [.agg (t3 a), .agg (t3 b), .clo (R.ft 278) []] (.agg (t3 (vmul a b))) :=
  h.o262.enter 60 rfl fun X bb hfit hp => by
    refine sh ?_
    refine ICall.pure hf.o278.hb (mulf_c hf ha.1 hb.1) rfl ?_
    refine sh ?_
    refine ICall.pure hf.o278.hb (mulf_c hf ha.2.1 hb.2.1) rfl ?_
    refine sh ?_
    refine ICall.pure hf.o278.hb (mulf_c hf ha.2.2 hb.2.2) rfl ?_
    refine sh ?_
    exact rT
theorem vadd_c {R : Env} (h : N246 R) (l : List T3) (hl : l.length ≤ 1000) (hi : ∀ x ∈ l, x.I) : R.Pc 246 [.isl 3 (slc3 l)] (.agg (t3 (l.foldl vadd z3))) :=
  h.o246.enter 100 rfl fun X bb hfit hp => by
    refine sh ?_
    refine lPa 100 (fun s : Nat × T3 => s.1 ≤ l.length ∧ s.2.I ∧ (l.take s.1).foldl vadd z3 = s.2) (fun s => ⟨[(2, .loc 0 1 0 0), (3, .loc 1 1 0 0), (6, .isl 3 (slc3 l)), (7, .int .i64 l.length), (8, .int .i64 s.1)], [(1, .var (R.ty 31) (t3 s.2)), (0, .var (R.ty 31) [.int .i64 0, .int .i64 0, .int .i64 0])], 2⟩) (fun s => l.length - s.1) ((0, z3)) ?_ ?_
    · exact ⟨Nat.zero_le _, z3_in, rfl⟩
    · rintro ⟨k, s⟩ ⟨h1, h2, h3⟩
      dsimp only at h1 h2 h3 ⊢
      refine sh ?_
      refine cS (fun h4 => ?_) (fun h4 => ?_)
      · obtain ⟨x, hx⟩ : ∃ u_, l[k]? = some u_ := ⟨_, List.getElem?_eq_getElem (by first | omega | (simp <;> omega))⟩
        refine sh ?_
        refine eget_map hx ?_
        have ix := hi x (List.mem_of_getElem? hx)
        refine sh ?_
        refine ICall.pure h.n262.o262.hb (each_add h.n262 h.n263 h2 ix) rfl ?_
        refine sh ?_
        refine nXa ((k + 1, vadd s x)) ?_ ?_
        · exact ⟨by omega, vadd_in s x, by rw [take_succ_get hx, List.foldl_append, h3]; rfl⟩
        · omega
      · rw [List.take_of_length_le (by omega)] at h3
        rw [h3]
        refine sh ?_
        exact rT
theorem vtimes_c {R : Env} (h : N266 R) (l : List T3) (hl : l.length ≤ 1000) (hi : ∀ x ∈ l, x.I) : R.Pc 266 [.isl 3 (slc3 l)] (.agg (t3 (l.foldl vmul one3))) :=
  h.o266.enter 100 rfl fun X bb hfit hp => by
    refine sh ?_
    refine lPa 100 (fun s : Nat × T3 => s.1 ≤ l.length ∧ s.2.I ∧ (l.take s.1).foldl vmul one3 = s.2) (fun s => ⟨[(2, .loc 0 1 0 0), (3, .loc 1 1 0 0), (7, .isl 3 (slc3 l)), (8, .int .i64 l.length), (9, .int .i64 s.1)], [(1, .var (R.ty 31) (t3 s.2)), (0, .var (R.ty 31) [.int .i64 0, .int .i64 0, .int .i64 0])], 2⟩) (fun s => l.length - s.1) ((0, one3)) ?_ ?_
    · exact ⟨Nat.zero_le _, one3_in, rfl⟩
    · rintro ⟨k, s⟩ ⟨h1, h2, h3⟩
      dsimp only at h1 h2 h3 ⊢
      refine sh ?_
      refine cS (fun h4 => ?_) (fun h4 => ?_)
      · obtain ⟨x, hx⟩ : ∃ u_, l[k]? = some u_ := ⟨_, List.getElem?_eq_getElem (by first | omega | (simp <;> omega))⟩
        refine sh ?_
        refine eget_map hx ?_
        have ix := hi x (List.mem_of_getElem? hx)
        refine sh ?_
        refine ICall.pure h.n262.o262.hb (each_mul h.n262 h.n278 h2 ix) rfl ?_
        refine sh ?_
        refine nXa ((k + 1, vmul s x)) ?_ ?_
        · exact ⟨by omega, vmul_in s x, by rw [take_succ_get hx, List.foldl_append, h3]; rfl⟩
        · omega
      · rw [List.take_of_length_le (by omega)] at h3
        rw [h3]
        refine sh ?_
        exact rT
theorem dot_c {R : Env} (h : N252 R) {a b : T3} (ha : a.I) (hb : b.I) : R.Pc 252 [.agg (t3 a), .agg (t3 b)] (.int .i64 (dot a b)) :=
  h.o252.enter 100 rfl fun X bb hfit hp => by
    have c1 := vtimes_c h.n266 [a, b] (by simp) (by intro x hx; simp at hx; rcases hx with rfl | rfl <;> assumption)
    rw [show [a, b].foldl vmul one3 = vmul a b by simp [vmul1 ha]] at c1
    refine sh ?_
    refine ICall.lend rfl h.n266.o266.hb c1 ?_ rfl ?_
    · all_goals repeat' (first | exact True.intro | refine And.intro ?_ ?_ | (intro _u; clear _u) | (with_reducible first | refine eM ?_ ?_ | refine eF ?_ ?_ ?_ | refine eN ?_ | refine eL ?_ ?_ ?_ | refine eA ?_ ?_ | refine IWk.mk ⟨_, hp, rfl⟩ ?_ ?_) | refine IWk.mk ⟨_, hp, rfl⟩ ?_ ?_)
      all_goals first | with_reducible rfl | omega | exact Or.inl (by decide) | (simp; done) | rfl | skip
    have i1 := vmul_in a b
    generalize hv : vmul a b = v at *
    have c2 := fadd_c h.n267 [v.a, v.b, v.c] (by simp) (by intro x hx; simp at hx; rcases hx with rfl | rfl | rfl; exact i1.1; exact i1.2.1; exact i1.2.2)
    rw [show sums 0 [v.a, v.b, v.c] = dot a b by unfold sums dot; simp only [List.foldl_cons, List.foldl_nil]; rw [tadd0 i1.1, ← hv]; rfl] at c2
    refine sh ?_
    refine ICall.lend rfl h.n267.o267.hb c2 ?_ rfl ?_
    · all_goals repeat' (first | exact True.intro | refine And.intro ?_ ?_ | (intro _u; clear _u) | (with_reducible first | refine eM ?_ ?_ | refine eF ?_ ?_ ?_ | refine eN ?_ | refine eL ?_ ?_ ?_ | refine eA ?_ ?_ | refine IWk.mk ⟨_, hp, rfl⟩ ?_ ?_) | refine IWk.mk ⟨_, hp, rfl⟩ ?_ ?_)
      all_goals first | with_reducible rfl | omega | exact Or.inl (by decide) | (simp; done) | rfl | skip
    refine sh ?_
    exact rT
theorem vofp_c {R : Env} (h : N249 R) {p : T3} (hp' : p.I) : R.Pc 249 [.agg (t3 p)] (.agg (t3 (vof p))) :=
  h.o249.enter 100 rfl fun X bb hfit hp => by
    refine sh ?_
    refine ICall.pure h.n248.o248.hb (fof_c h.n248 hp'.1) rfl ?_
    refine sh ?_
    refine ICall.pure h.n248.o248.hb (fof_c h.n248 hp'.2.1) rfl ?_
    refine sh ?_
    refine ICall.pure h.n248.o248.hb (fof_c h.n248 hp'.2.2) rfl ?_
    refine sh ?_
    exact rT
theorem vmost_c {R : Env} (h : N256 R) {p : T3} (hp' : p.I) : R.Pc 256 [.agg (t3 p)] (.int .i64 (mostT p)) :=
  h.o256.enter 100 rfl fun X bb hfit hp => by
    refine sh ?_
    refine ICall.pure h.n255.o255.hb (fabs_c h.n255 hp'.1) rfl ?_
    refine sh ?_
    refine ICall.pure h.n255.o255.hb (fabs_c h.n255 hp'.2.1) rfl ?_
    refine sh ?_
    refine ICall.pure h.n255.o255.hb (fabs_c h.n255 hp'.2.2) rfl ?_
    refine sh ?_
    exact rT

/-! ### The document's numbers -/
theorem rsize_c {R : Env} (h : N279 R) {x : Int} (hx : I64 x) : R.Pc 279 [.int .i64 x] (.int .u64 (absI x)) :=
  h.o279.enter 100 rfl fun X bb hfit hp => by
    rw [i64_iff] at hx
    unfold absI
    refine sh ?_
    refine cS (fun h1 => ?_) (fun h1 => ?_)
    · refine sh ?_
      refine rT ?_
      all_goals repeat' (first | exact True.intro | refine And.intro ?_ ?_ | (intro _u; clear _u) | (with_reducible first | refine eM ?_ ?_ | refine eF ?_ ?_ ?_ | refine eN ?_ | refine eL ?_ ?_ ?_ | refine eA ?_ ?_ | refine IWk.mk ⟨_, hp, rfl⟩ ?_ ?_) | refine IWk.mk ⟨_, hp, rfl⟩ ?_ ?_)
      all_goals first | with_reducible rfl | omega | exact Or.inl (by decide) | (simp; done) | rfl | skip
      all_goals omega
    · refine sh ?_
      refine rT ?_
      all_goals repeat' (first | exact True.intro | refine And.intro ?_ ?_ | (intro _u; clear _u) | (with_reducible first | refine eM ?_ ?_ | refine eF ?_ ?_ ?_ | refine eN ?_ | refine eL ?_ ?_ ?_ | refine eA ?_ ?_ | refine IWk.mk ⟨_, hp, rfl⟩ ?_ ?_) | refine IWk.mk ⟨_, hp, rfl⟩ ?_ ?_)
      all_goals first | with_reducible rfl | omega | exact Or.inl (by decide) | (simp; done) | rfl | skip
      all_goals omega
/-- A size with a sign as a number of 64 bits. -/
def rnear (s : Int) (below big : Bool) : Int := if below = true then (if big = true ∨ 9223372036854775808 ≤ s then -9223372036854775808 else -s) else (if big = true ∨ 9223372036854775808 ≤ s then 9223372036854775807 else s)
theorem rnear_c2 {R : Env} (h : N280 R) {s : Int} (hs : U64 s) (below big : Bool) : R.Pc 280 [.int .u64 s, .bool below, .bool big] (.int .i64 (rnear s below big)) :=
  h.o280.enter 100 rfl fun X bb hfit hp => by
    rw [u64_iff] at hs
    unfold rnear
    cases below with
    | true =>
      cases big with
      | true =>
        refine sh ?_
        exact rT
      | false =>
        refine sh ?_
        refine cS (fun h1 => ?_) (fun h1 => ?_)
        · refine sh ?_
          refine rT ?_
          all_goals repeat' (first | exact True.intro | refine And.intro ?_ ?_ | (intro _u; clear _u) | (with_reducible first | refine eM ?_ ?_ | refine eF ?_ ?_ ?_ | refine eN ?_ | refine eL ?_ ?_ ?_ | refine eA ?_ ?_ | refine IWk.mk ⟨_, hp, rfl⟩ ?_ ?_) | refine IWk.mk ⟨_, hp, rfl⟩ ?_ ?_)
          all_goals first | with_reducible rfl | omega | exact Or.inl (by decide) | (simp; done) | rfl | skip
          all_goals (simp; omega)
        · refine sh ?_
          refine rT ?_
          all_goals repeat' (first | exact True.intro | refine And.intro ?_ ?_ | (intro _u; clear _u) | (with_reducible first | refine eM ?_ ?_ | refine eF ?_ ?_ ?_ | refine eN ?_ | refine eL ?_ ?_ ?_ | refine eA ?_ ?_ | refine IWk.mk ⟨_, hp, rfl⟩ ?_ ?_) | refine IWk.mk ⟨_, hp, rfl⟩ ?_ ?_)
          all_goals first | with_reducible rfl | omega | exact Or.inl (by decide) | (simp; done) | rfl | skip
          all_goals (simp; omega)
    | false =>
      cases big with
      | true =>
        refine sh ?_
        exact rT
      | false =>
        refine sh ?_
        refine cS (fun h1 => ?_) (fun h1 => ?_)
        · refine sh ?_
          refine rT ?_
          all_goals repeat' (first | exact True.intro | refine And.intro ?_ ?_ | (intro _u; clear _u) | (with_reducible first | refine eM ?_ ?_ | refine eF ?_ ?_ ?_ | refine eN ?_ | refine eL ?_ ?_ ?_ | refine eA ?_ ?_ | refine IWk.mk ⟨_, hp, rfl⟩ ?_ ?_) | refine IWk.mk ⟨_, hp, rfl⟩ ?_ ?_)
          all_goals first | with_reducible rfl | omega | exact Or.inl (by decide) | (simp; done) | rfl | skip
          all_goals (simp; omega)
        · refine sh ?_
          refine rT ?_
          all_goals repeat' (first | exact True.intro | refine And.intro ?_ ?_ | (intro _u; clear _u) | (with_reducible first | refine eM ?_ ?_ | refine eF ?_ ?_ ?_ | refine eN ?_ | refine eL ?_ ?_ ?_ | refine eA ?_ ?_ | refine IWk.mk ⟨_, hp, rfl⟩ ?_ ?_) | refine IWk.mk ⟨_, hp, rfl⟩ ?_ ?_)
          all_goals first | with_reducible rfl | omega | exact Or.inl (by decide) | (simp; done) | rfl | skip
          all_goals (simp; omega)
theorem same_sign {a b : Int} (h : (decide (a < 0) == decide (b < 0)) = true) : (a < 0 ∧ b < 0) ∨ (0 ≤ a ∧ 0 ≤ b) := by
  by_cases ha : a < 0 <;> by_cases hb : b < 0
  · exact .inl ⟨ha, hb⟩
  · simp [ha, hb] at h
  · simp [ha, hb] at h
  · exact .inr ⟨by omega, by omega⟩
theorem rtwo_e {a b : Int} (ha : I64 a) (hb : I64 b) (h : (a < 0 ∧ b < 0) ∨ (0 ≤ a ∧ 0 ≤ b)) : rnear (wr .u64 (absI a + absI b)) (decide (a < 0)) (decide (wr .u64 (absI a + absI b) < absI a)) = sat (a + b) := by
  rw [i64_iff] at ha hb
  rcases h with ⟨h1, h2⟩ | ⟨h1, h2⟩
  · have e1 : absI a = -a := if_pos h1
    have e2 : absI b = -b := if_pos h2
    rw [e1, e2, wr_u64, decide_eq_true h1]
    unfold rnear sat
    simp only [if_true, decide_eq_true_eq]
    repeat' split
    all_goals omega
  · have e1 : absI a = a := if_neg (show ¬ a < 0 by omega)
    have e2 : absI b = b := if_neg (show ¬ b < 0 by omega)
    rw [e1, e2, wr_u64, decide_eq_false (show ¬ a < 0 by omega)]
    unfold rnear sat
    simp only [Bool.false_eq_true, if_false, decide_eq_true_eq]
    repeat' split
    all_goals omega
theorem rtwo_c {R : Env} (h : N269 R) {a b : Int} (ha : I64 a) (hb : I64 b) : R.Pc 269 [.int .i64 a, .int .i64 b] (.int .i64 (tadd a b)) :=
  h.o269.enter 100 rfl fun X bb hfit hp => by
    refine sh ?_
    refine ICall.pure h.n279.o279.hb (rsize_c h.n279 ha) rfl ?_
    refine sh ?_
    refine ICall.pure h.n279.o279.hb (rsize_c h.n279 hb) rfl ?_
    have u1 := absI_in ha
    have u2 := absI_in hb
    refine sh ?_
    refine cS (fun h1 => ?_) (fun h1 => ?_)
    · have e := rtwo_e ha hb (same_sign h1)
      refine sh ?_
      refine iwr_any ?_
      refine sh ?_
      refine iwr_any ?_
      refine sh ?_
      refine ICall.pure h.n280.o280.hb (rnear_c2 h.n280 (wr_inI .u64 _) _ _) rfl ?_
      rw [e]
      refine sh ?_
      exact rT
    · rw [i64_iff] at ha hb
      have h2 : -9223372036854775808 ≤ a + b ∧ a + b ≤ 9223372036854775807 := by
        by_cases q1 : a < 0 <;> by_cases q2 : b < 0
        · simp [q1, q2] at h1
        · omega
        · omega
        · simp [q1, q2] at h1
      refine sh ?_
      refine rT ?_
      all_goals repeat' (first | exact True.intro | refine And.intro ?_ ?_ | (intro _u; clear _u) | (with_reducible first | refine eM ?_ ?_ | refine eF ?_ ?_ ?_ | refine eN ?_ | refine eL ?_ ?_ ?_ | refine eA ?_ ?_ | refine IWk.mk ⟨_, hp, rfl⟩ ?_ ?_) | refine IWk.mk ⟨_, hp, rfl⟩ ?_ ?_)
      all_goals first | with_reducible rfl | omega | exact Or.inl (by decide) | (simp; done) | rfl | skip
      all_goals exact (sat_id (i64_iff.2 h2)).symm
/-- The document's difference from 0. -/
theorem rsub0_c {R : Env} (h : N282 R) {b : Int} (hb : I64 b) : R.Pc 282 [.int .i64 0, .int .i64 b] (.int .i64 (sat (-b))) :=
  h.o282.enter 100 rfl fun X bb hfit hp => by
    have h0 : I64 0 := ⟨by decide, by decide⟩
    refine sh ?_
    refine ICall.pure h.n279.o279.hb (rsize_c h.n279 h0) rfl ?_
    refine sh ?_
    refine ICall.pure h.n279.o279.hb (rsize_c h.n279 hb) rfl ?_
    have u2 := absI_in hb
    rw [i64_iff] at hb
    refine sh ?_
    refine cS (fun h1 => ?_) (fun h1 => ?_)
    · have hneg : b < 0 := by
        by_cases q : b < 0
        · exact q
        · simp [q] at h1
      have e : rnear (wr .u64 (absI 0 + absI b)) (decide ((0 : Int) < 0)) (decide (wr .u64 (absI 0 + absI b) < absI 0)) = sat (-b) := by
        have e1 : absI 0 = 0 := rfl
        have e2 : absI b = -b := if_pos hneg
        rw [e1, e2, wr_u64, decide_eq_false (show ¬ (0 : Int) < 0 by omega)]
        unfold rnear sat
        simp only [Bool.false_eq_true, if_false, decide_eq_true_eq]
        repeat' split
        all_goals omega
      refine sh ?_
      refine iwr_any ?_
      refine sh ?_
      refine iwr_any ?_
      refine sh ?_
      refine ICall.pure h.n280.o280.hb (rnear_c2 h.n280 (wr_inI .u64 _) _ _) rfl ?_
      rw [e]
      refine sh ?_
      exact rT
    · have hpos : ¬ b < 0 := by
        intro q
        simp [q] at h1
      refine sh ?_
      refine rT ?_
      all_goals repeat' (first | exact True.intro | refine And.intro ?_ ?_ | (intro _u; clear _u) | (with_reducible first | refine eM ?_ ?_ | refine eF ?_ ?_ ?_ | refine eN ?_ | refine eL ?_ ?_ ?_ | refine eA ?_ ?_ | refine IWk.mk ⟨_, hp, rfl⟩ ?_ ?_) | refine IWk.mk ⟨_, hp, rfl⟩ ?_ ?_)
      all_goals first | with_reducible rfl | omega | exact Or.inl (by decide) | (simp; done) | rfl | skip
      all_goals (unfold sat; rw [if_neg (by omega), if_neg (by omega)]; omega)

theorem rtimes_e {a b : Int} (ha : I64 a) (hb : I64 b) {s : Int} {big : Bool} (below : Bool) (hbl : a * b = if below = true then -(absI a * absI b) else absI a * absI b)
    (hs : s = (absI a * absI b / 4294967296 + (if below = true ∧ 0 < absI a * absI b % 4294967296 then 1 else 0)) % 18446744073709551616)
    (hbig : big = decide (18446744073709551616 ≤ absI a * absI b / 4294967296 + (if below = true ∧ 0 < absI a * absI b % 4294967296 then 1 else 0))) : rnear s below big = tmul a b := by
  have hP := abs_prod ha hb
  unfold tmul
  rw [hbl]
  generalize absI a * absI b = P at *
  subst hs hbig
  unfold rnear sat
  cases below with
  | true =>
    simp only [decide_eq_true_eq, true_and, if_true]
    repeat' split
    all_goals omega
  | false =>
    simp only [decide_eq_true_eq, Bool.false_eq_true, false_and, if_false]
    repeat' split
    all_goals omega
theorem rtimes_c {R : Env} (h : N268 R) {a b : Int} (ha : I64 a) (hb : I64 b) : R.Pc 268 [.int .i64 a, .int .i64 b] (.int .i64 (tmul a b)) :=
  h.o268.enter 100 rfl fun X bb hfit hp => by
    refine sh ?_
    refine ICall.pure h.n279.o279.hb (rsize_c h.n279 ha) rfl ?_
    refine sh ?_
    refine ICall.pure h.n279.o279.hb (rsize_c h.n279 hb) rfl ?_
    refine sh ?_
    refine ICall.pure h.n276.o276.hb (mul64_c h.n276 (abs_u64 ha) (abs_u64 hb)) rfl ?_
    have hP := abs_prod ha hb
    have hbl := mul_abs a b
    have hE := fun s big => rtimes_e (s := s) (big := big) ha hb (decide (a < 0) != decide (b < 0)) hbl
    have e1 : bit2 .or .u64 (shlI .u64 (whi (absI a * absI b)) 32) (shrI .u64 (wlo (absI a * absI b)) 32) = absI a * absI b / 4294967296 % 18446744073709551616 := by
      generalize absI a * absI b = P at *
      have e : shlI .u64 (whi P) 32 = (whi P % 4294967296) * 4294967296 := by rw [shl32]; omega
      have h2 := wlo_in P
      rw [e, shr32 .u64 (by decide), or_shift (by omega) (by omega)]
      unfold whi wlo; omega
    have e2 : bit2 .and .u64 (wlo (absI a * absI b)) 4294967295 = absI a * absI b % 4294967296 := by
      rw [and_low (wlo_in _)]; unfold wlo; omega
    generalize hbe : (decide (a < 0) != decide (b < 0)) = below at *
    cases below with
    | false =>
      refine sh ?_
      rw [hbe]
      refine acnd_f rfl ?_
      refine sh ?_
      rw [e1]
      clear e1
      refine ICall.pure h.n280.o280.hb (rnear_c2 h.n280 ⟨by omega, by omega⟩ _ _) rfl ?_
      rw [hE _ _ (by simp) (by simp only [Bool.false_eq_true, false_and, if_false]; congr 1; unfold whi; apply propext; constructor <;> intro <;> omega)]
      refine sh ?_
      exact rT
    | true =>
      refine sh ?_
      rw [hbe]
      refine acnd_t rfl ?_
      refine sh ?_
      rw [e2]
      refine cS (fun g => ?_) (fun g => ?_)
      · refine sh ?_
        rw [e1]
        clear e1 e2
        refine iwr_any ?_
        refine sh ?_
        refine cS (fun g2 => ?_) (fun g2 => ?_)
        · refine sh ?_
          refine ICall.pure h.n280.o280.hb (rnear_c2 h.n280 (wr_inI .u64 _) _ _) rfl ?_
          rw [hE _ _ (by simp only [true_and]; rw [if_pos g, wr_u64]; omega) (by simp only [true_and]; rw [if_pos g]; symm; rw [decide_eq_true_eq]; unfold whi at g2; omega)]
          refine sh ?_
          exact rT
        · refine sh ?_
          refine ICall.pure h.n280.o280.hb (rnear_c2 h.n280 (wr_inI .u64 _) _ _) rfl ?_
          rw [hE _ _ (by simp only [true_and]; rw [if_pos g, wr_u64]; omega) (by simp only [true_and]; rw [if_pos g, wr_u64, Bool.eq_iff_iff]; simp only [beq_iff_eq, decide_eq_true_eq]; unfold whi at g2; omega)]
          refine sh ?_
          exact rT
      · refine sh ?_
        rw [e1]
        clear e1 e2
        refine ICall.pure h.n280.o280.hb (rnear_c2 h.n280 ⟨by omega, by omega⟩ _ _) rfl ?_
        rw [hE _ _ (by simp only [true_and]; rw [if_neg (by omega)]; simp) (by simp only [true_and]; rw [if_neg (by omega)]; congr 1; unfold whi; apply propext; constructor <;> intro <;> omega)]
        refine sh ?_
        exact rT

theorem rof_c {R : Env} (h : N272 R) {n : Int} (hn : I64 n) : R.Pc 272 [.int .i64 n] (.int .i64 (sat (n * 4294967296))) :=
  h.o272.enter 100 rfl fun X bb hfit hp => by
    refine sh ?_
    refine ICall.pure h.n279.o279.hb (rsize_c h.n279 hn) rfl ?_
    have u1 := absI_in hn
    refine sh ?_
    rw [shl32]
    refine ICall.pure h.n280.o280.hb (rnear_c2 h.n280 ⟨by omega, by omega⟩ _ _) rfl ?_
    have e : rnear (absI n * 4294967296 % 18446744073709551616) (decide (n < 0)) (decide (absI n ≥ 4294967296)) = sat (n * 4294967296) := by
      rw [i64_iff] at hn
      by_cases h1 : n < 0
      · have e1 : absI n = -n := if_pos h1
        rw [e1, decide_eq_true h1]
        unfold rnear sat
        simp only [if_true, decide_eq_true_eq]
        repeat' split
        all_goals omega
      · have e1 : absI n = n := if_neg h1
        rw [e1, decide_eq_false h1]
        unfold rnear sat
        simp only [Bool.false_eq_true, if_false, decide_eq_true_eq]
        repeat' split
        all_goals omega
    rw [e]
    refine sh ?_
    exact rT
theorem rfloor_c {R : Env} (h : N273 R) {x : Int} (hx : I64 x) : R.Pc 273 [.int .i64 x] (.int .i64 (x / 4294967296)) :=
  h.o273.enter 100 rfl fun X bb hfit hp => by
    refine sh ?_
    refine ICall.pure h.n279.o279.hb (rsize_c h.n279 hx) rfl ?_
    have u1 := absI_in hx
    have hand : bit2 .and .u64 (absI x) 4294967295 = absI x % 4294967296 := and_low (abs_u64 hx)
    have hshr : shrI .u64 (absI x) 32 = absI x / 4294967296 := shr32 .u64 (by decide)
    have hx2 := hx
    rw [i64_iff] at hx2
    refine sh ?_
    refine cS (fun h1 => ?_) (fun h1 => ?_)
    · have e1 : absI x = x := if_neg (show ¬ x < 0 by omega)
      refine sh ?_
      refine rT ?_
      all_goals repeat' (first | exact True.intro | refine And.intro ?_ ?_ | (intro _u; clear _u) | (with_reducible first | refine eM ?_ ?_ | refine eF ?_ ?_ ?_ | refine eN ?_ | refine eL ?_ ?_ ?_ | refine eA ?_ ?_ | refine IWk.mk ⟨_, hp, rfl⟩ ?_ ?_) | refine IWk.mk ⟨_, hp, rfl⟩ ?_ ?_)
      all_goals first | with_reducible rfl | omega | exact Or.inl (by decide) | (simp; done) | rfl | skip
      all_goals omega
    · have e1 : absI x = -x := if_pos h1
      refine sh ?_
      rw [hand]
      refine cS (fun g => ?_) (fun g => ?_)
      · refine sh ?_
        refine rT ?_
        all_goals repeat' (first | exact True.intro | refine And.intro ?_ ?_ | (intro _u; clear _u) | (with_reducible first | refine eM ?_ ?_ | refine eF ?_ ?_ ?_ | refine eN ?_ | refine eL ?_ ?_ ?_ | refine eA ?_ ?_ | refine IWk.mk ⟨_, hp, rfl⟩ ?_ ?_) | refine IWk.mk ⟨_, hp, rfl⟩ ?_ ?_)
        all_goals first | with_reducible rfl | omega | exact Or.inl (by decide) | (simp; done) | rfl | skip
        all_goals omega
      · refine sh ?_
        refine rT ?_
        all_goals repeat' (first | exact True.intro | refine And.intro ?_ ?_ | (intro _u; clear _u) | (with_reducible first | refine eM ?_ ?_ | refine eF ?_ ?_ ?_ | refine eN ?_ | refine eL ?_ ?_ ?_ | refine eA ?_ ?_ | refine IWk.mk ⟨_, hp, rfl⟩ ?_ ?_) | refine IWk.mk ⟨_, hp, rfl⟩ ?_ ?_)
        all_goals first | with_reducible rfl | omega | exact Or.inl (by decide) | (simp; done) | rfl | skip
        all_goals omega
theorem rround_c {R : Env} (h : N261 R) {x : Int} (hx : I64 x) : R.Pc 261 [.int .i64 x] (.int .i64 (rnd x)) :=
  h.o261.enter 100 rfl fun X bb hfit hp => by
    have hx2 := hx
    rw [i64_iff] at hx2
    refine sh ?_
    refine cS (fun h1 => ?_) (fun h1 => ?_)
    · refine sh ?_
      refine rT ?_
      all_goals repeat' (first | exact True.intro | refine And.intro ?_ ?_ | (intro _u; clear _u) | (with_reducible first | refine eM ?_ ?_ | refine eF ?_ ?_ ?_ | refine eN ?_ | refine eL ?_ ?_ ?_ | refine eA ?_ ?_ | refine IWk.mk ⟨_, hp, rfl⟩ ?_ ?_) | refine IWk.mk ⟨_, hp, rfl⟩ ?_ ?_)
      all_goals first | with_reducible rfl | omega | exact Or.inl (by decide) | (simp; done) | rfl | skip
      all_goals (unfold rnd; omega)
    · refine sh ?_
      refine ICall.pure h.n273.o273.hb (rfloor_c h.n273 (x := x + 2147483648) ⟨by omega, by omega⟩) rfl ?_
      refine sh ?_
      exact rT

/-! ### The document's vectors -/
theorem rdot_c {R : Env} (h : N253 R) {a b : T3} (ha : a.I) (hb : b.I) : R.Pc 253 [.agg (t3 a), .agg (t3 b)] (.int .i64 (dot a b)) :=
  h.o253.enter 100 rfl fun X bb hfit hp => by
    refine sh ?_
    refine ICall.pure h.n268.o268.hb (rtimes_c h.n268 ha.1 hb.1) rfl ?_
    refine sh ?_
    refine ICall.pure h.n269.o269.hb (rtwo_c h.n269 (a := 0) ⟨by decide, by decide⟩ (tmul_in a.a b.a)) rfl ?_
    rw [tadd0 (tmul_in a.a b.a)]
    refine sh ?_
    refine ICall.pure h.n268.o268.hb (rtimes_c h.n268 ha.2.1 hb.2.1) rfl ?_
    refine sh ?_
    refine ICall.pure h.n269.o269.hb (rtwo_c h.n269 (tmul_in a.a b.a) (tmul_in a.b b.b)) rfl ?_
    refine sh ?_
    refine ICall.pure h.n268.o268.hb (rtimes_c h.n268 ha.2.2 hb.2.2) rfl ?_
    refine sh ?_
    refine ICall.pure h.n269.o269.hb (rtwo_c h.n269 (tadd_in _ _) (tmul_in a.c b.c)) rfl ?_
    refine sh ?_
    exact rT
theorem rvtwo_c {R : Env} (h : N254 R) {a b : T3} (ha : a.I) (hb : b.I) : R.Pc 254 [.agg (t3 a), .agg (t3 b)] (.agg (t3 (vadd a b))) :=
  h.o254.enter 100 rfl fun X bb hfit hp => by
    refine sh ?_
    refine ICall.pure h.n269.o269.hb (rtwo_c h.n269 ha.1 hb.1) rfl ?_
    refine sh ?_
    refine ICall.pure h.n269.o269.hb (rtwo_c h.n269 ha.2.1 hb.2.1) rfl ?_
    refine sh ?_
    refine ICall.pure h.n269.o269.hb (rtwo_c h.n269 ha.2.2 hb.2.2) rfl ?_
    refine sh ?_
    exact rT
theorem rvof_c {R : Env} (h : N259 R) {p : T3} (hp' : p.I) : R.Pc 259 [.agg (t3 p)] (.agg (t3 (vof p))) :=
  h.o259.enter 100 rfl fun X bb hfit hp => by
    refine sh ?_
    refine ICall.pure h.n272.o272.hb (rof_c h.n272 hp'.1) rfl ?_
    refine sh ?_
    refine ICall.pure h.n272.o272.hb (rof_c h.n272 hp'.2.1) rfl ?_
    refine sh ?_
    refine ICall.pure h.n272.o272.hb (rof_c h.n272 hp'.2.2) rfl ?_
    refine sh ?_
    exact rT
theorem rsizeI_c {R : Env} (h : N271 R) {x : Int} (hx : I64 x) : R.Pc 271 [.int .i64 x] (.int .i64 (sizeI x)) :=
  h.o271.enter 100 rfl fun X bb hfit hp => by
    refine sh ?_
    refine cS (fun h1 => ?_) (fun h1 => ?_)
    · refine sh ?_
      refine ICall.pure h.n282.o282.hb (rsub0_c h.n282 hx) rfl ?_
      refine sh ?_
      refine rT ?_
      all_goals repeat' (first | exact True.intro | refine And.intro ?_ ?_ | (intro _u; clear _u) | (with_reducible first | refine eM ?_ ?_ | refine eF ?_ ?_ ?_ | refine eN ?_ | refine eL ?_ ?_ ?_ | refine eA ?_ ?_ | refine IWk.mk ⟨_, hp, rfl⟩ ?_ ?_) | refine IWk.mk ⟨_, hp, rfl⟩ ?_ ?_)
      all_goals first | with_reducible rfl | omega | exact Or.inl (by decide) | (simp; done) | rfl | skip
      all_goals (unfold sizeI; rw [if_pos h1])
    · refine sh ?_
      refine rT ?_
      all_goals repeat' (first | exact True.intro | refine And.intro ?_ ?_ | (intro _u; clear _u) | (with_reducible first | refine eM ?_ ?_ | refine eF ?_ ?_ ?_ | refine eN ?_ | refine eL ?_ ?_ ?_ | refine eA ?_ ?_ | refine IWk.mk ⟨_, hp, rfl⟩ ?_ ?_) | refine IWk.mk ⟨_, hp, rfl⟩ ?_ ?_)
      all_goals first | with_reducible rfl | omega | exact Or.inl (by decide) | (simp; done) | rfl | skip
      all_goals (unfold sizeI; rw [if_neg (by omega)])
theorem rmost_c {R : Env} (h : N257 R) {p : T3} (hp' : p.I) : R.Pc 257 [.agg (t3 p)] (.int .i64 (mostT p)) :=
  h.o257.enter 100 rfl fun X bb hfit hp => by
    unfold mostT
    refine sh ?_
    refine ICall.pure h.n271.o271.hb (rsizeI_c h.n271 hp'.1) rfl ?_
    refine sh ?_
    refine ICall.pure h.n271.o271.hb (rsizeI_c h.n271 hp'.2.1) rfl ?_
    refine sh ?_
    refine cS (fun h1 => ?_) (fun h1 => ?_)
    · refine sh ?_
      refine ICall.pure h.n271.o271.hb (rsizeI_c h.n271 hp'.2.1) rfl ?_
      refine sh ?_
      refine ICall.pure h.n271.o271.hb (rsizeI_c h.n271 hp'.2.2) rfl ?_
      refine sh ?_
      refine cS (fun h2 => ?_) (fun h2 => ?_)
      · refine sh ?_
        refine ICall.pure h.n271.o271.hb (rsizeI_c h.n271 hp'.2.2) rfl ?_
        refine sh ?_
        refine rT ?_
        all_goals repeat' (first | exact True.intro | refine And.intro ?_ ?_ | (intro _u; clear _u) | (with_reducible first | refine eM ?_ ?_ | refine eF ?_ ?_ ?_ | refine eN ?_ | refine eL ?_ ?_ ?_ | refine eA ?_ ?_ | refine IWk.mk ⟨_, hp, rfl⟩ ?_ ?_) | refine IWk.mk ⟨_, hp, rfl⟩ ?_ ?_)
        all_goals first | with_reducible rfl | omega | exact Or.inl (by decide) | (simp; done) | rfl | skip
        all_goals omega
      · refine sh ?_
        refine rT ?_
        all_goals repeat' (first | exact True.intro | refine And.intro ?_ ?_ | (intro _u; clear _u) | (with_reducible first | refine eM ?_ ?_ | refine eF ?_ ?_ ?_ | refine eN ?_ | refine eL ?_ ?_ ?_ | refine eA ?_ ?_ | refine IWk.mk ⟨_, hp, rfl⟩ ?_ ?_) | refine IWk.mk ⟨_, hp, rfl⟩ ?_ ?_)
        all_goals first | with_reducible rfl | omega | exact Or.inl (by decide) | (simp; done) | rfl | skip
        all_goals omega
    · refine sh ?_
      refine ICall.pure h.n271.o271.hb (rsizeI_c h.n271 hp'.2.2) rfl ?_
      refine sh ?_
      refine cS (fun h2 => ?_) (fun h2 => ?_)
      · refine sh ?_
        refine ICall.pure h.n271.o271.hb (rsizeI_c h.n271 hp'.2.2) rfl ?_
        refine sh ?_
        refine rT ?_
        all_goals repeat' (first | exact True.intro | refine And.intro ?_ ?_ | (intro _u; clear _u) | (with_reducible first | refine eM ?_ ?_ | refine eF ?_ ?_ ?_ | refine eN ?_ | refine eL ?_ ?_ ?_ | refine eA ?_ ?_ | refine IWk.mk ⟨_, hp, rfl⟩ ?_ ?_) | refine IWk.mk ⟨_, hp, rfl⟩ ?_ ?_)
        all_goals first | with_reducible rfl | omega | exact Or.inl (by decide) | (simp; done) | rfl | skip
        all_goals omega
      · refine sh ?_
        refine rT ?_
        all_goals repeat' (first | exact True.intro | refine And.intro ?_ ?_ | (intro _u; clear _u) | (with_reducible first | refine eM ?_ ?_ | refine eF ?_ ?_ ?_ | refine eN ?_ | refine eL ?_ ?_ ?_ | refine eA ?_ ?_ | refine IWk.mk ⟨_, hp, rfl⟩ ?_ ?_) | refine IWk.mk ⟨_, hp, rfl⟩ ?_ ?_)
        all_goals first | with_reducible rfl | omega | exact Or.inl (by decide) | (simp; done) | rfl | skip
        all_goals omega
end Go.UM
