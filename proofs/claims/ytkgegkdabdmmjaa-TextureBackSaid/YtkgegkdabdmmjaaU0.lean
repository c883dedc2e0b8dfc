/- Of the reckoning machine, and what is proved with it: texts joined by program. -/
import Derived.Test.YtkgegkdabdmmjaaK2
set_option linter.all false

/- The resolved code of package lib, function by function; numbers are those of the register, the same for all programs. -/

namespace Go.UM
open Go.AM
/-- slices.Clone[[]byte,byte][[]uint8,uint8] -/
def c62 : IFn := { np := 1, rs := [.t 2], body :=
 (.seq
  (.ops [⟨some 2, none, .mv (.k (.nils))⟩])
  (.seq
   (.seq
    (.ops [⟨some 3, none, .mv (.t 0)⟩,
      ⟨some 4, none, .isnS false (.t 3)⟩])
    (.cond (.t 4)
     (.seq
      (.ops [⟨some 2, none, .mv (.k (.nils))⟩])
      .ret)
     .skip))
   (.keep [0]
    (.seq
     (.ops [⟨some 5, none, .bslice 4 1 0 [.int .u8 0] []⟩,
       ⟨some 6, none, .mv (.t 0)⟩,
       ⟨some 7, none, .app 4 1 (.t 5) (.t 6)⟩,
       ⟨some 2, none, .mv (.t 7)⟩])
     .ret)))) }
structure N62 (R : Env) : Prop where
  o62 : R.Fn 62 c62
/-- bytes.Equal -/
def c47 : IFn := { np := 2, rs := [.t 4], body :=
 (.seq
  (.ops [⟨some 4, none, .mv (.k (.bool false))⟩])
  (.seq
   (.ops [⟨some 5, none, .mv (.t 0)⟩,
     ⟨some 6, none, .b2s (.t 5)⟩,
     ⟨some 7, none, .mv (.t 1)⟩,
     ⟨some 8, none, .b2s (.t 7)⟩,
     ⟨some 9, none, .bst .eql (.t 6) (.t 8)⟩,
     ⟨some 4, none, .mv (.t 9)⟩])
   (.keep [4]
    .ret))) }
structure N47 (R : Env) : Prop where
  o47 : R.Fn 47 c47
/-- slices.Index[[]int,int][[]int,int] -/
def c106 : IFn := { np := 2, rs := [.t 4], body :=
 (.seq
  (.ops [⟨some 4, none, .mv (.k (.int .i64 0))⟩])
  (.seq
   (.seq
    (.ops [⟨some 6, none, .mv (.t 0)⟩,
      ⟨some 7, none, .lenS (.t 6)⟩,
      ⟨some 8, none, .mv (.k (.int .i64 0))⟩])
    (.keep [0, 1, 7, 8]
     (.block 0
      (.loop
       (.seq
        (.ops [⟨some 9, none, .bin .lss (.t 8) (.t 7)⟩])
        (.seq
         (.cond (.t 9)
          .skip
          (.exit 0))
         (.keep [0, 1, 7, 8]
          (.seq
           (.block 1
            (.seq
             (.ops [⟨some 10, none, .mv (.t 8)⟩,
               ⟨some 5, none, .mv (.t 10)⟩])
             (.seq
              (.ops [⟨some 11, none, .mv (.t 1)⟩,
                ⟨some 12, none, .mv (.t 0)⟩,
                ⟨some 13, none, .mv (.t 5)⟩,
                ⟨some 14, none, .idxS 1 (.t 12) (.t 13)⟩,
                ⟨some 15, none, .load false 1 (.t 14)⟩,
                ⟨some 16, none, .bin .eql (.t 11) (.t 15)⟩])
              (.keep [0, 1, 5, 7, 8, 16]
               (.cond (.t 16)
                (.seq
                 (.ops [⟨some 17, none, .mv (.t 5)⟩,
                   ⟨some 4, none, .mv (.t 17)⟩])
                 .ret)
                .skip)))))
           (.keep [0, 1, 7, 8]
            (.ops [⟨some 18, none, .bin .add (.t 8) (.k (.int .i64 1))⟩,
              ⟨some 8, none, .mv (.t 18)⟩]))))))))))
   (.keep []
    (.seq
     (.ops [⟨some 4, none, .mv (.k (.int .i64 (-1)))⟩])
     .ret)))) }
structure N106 (R : Env) : Prop where
  o106 : R.Fn 106 c106
/-- slices.Contains[[]int,int][[]int,int] -/
def c100 : IFn := { np := 2, rs := [.t 4], body :=
 (.seq
  (.ops [⟨some 4, none, .mv (.k (.bool false))⟩])
  (.seq
   (.ops [⟨some 5, none, .mv (.t 0)⟩,
     ⟨some 6, none, .mv (.t 1)⟩,
     ⟨some 7, none, .call 106 [.t 5, .t 6]⟩,
     ⟨some 8, none, .bin .geq (.t 7) (.k (.int .i64 0))⟩,
     ⟨some 4, none, .mv (.t 8)⟩])
   (.keep [4]
    .ret))) }
structure N100 (R : Env) : Prop where
  o100 : R.Fn 100 c100
  n106 : N106 R
/-- slices.Clone[[][3]int,[3]int][[][3]int,[3]int] -/
def c101 : IFn := { np := 1, rs := [.t 2], body :=
 (.seq
  (.ops [⟨some 2, none, .mv (.k (.nils))⟩])
  (.seq
   (.seq
    (.ops [⟨some 3, none, .mv (.t 0)⟩,
      ⟨some 4, none, .isnS false (.t 3)⟩])
    (.cond (.t 4)
     (.seq
      (.ops [⟨some 2, none, .mv (.k (.nils))⟩])
      .ret)
     .skip))
   (.keep [0]
    (.seq
     (.ops [⟨some 5, none, .bslice 13 3 0 [.int .i64 0, .int .i64 0, .int .i64 0] []⟩,
       ⟨some 6, none, .mv (.t 0)⟩,
       ⟨some 7, none, .app 13 3 (.t 5) (.t 6)⟩,
       ⟨some 2, none, .mv (.t 7)⟩])
     .ret)))) }
structure N101 (R : Env) : Prop where
  o101 : R.Fn 101 c101
/-- slices.Clone[[]int,int][[]int,int] -/
def c156 : IFn := { np := 1, rs := [.t 2], body :=
 (.seq
  (.ops [⟨some 2, none, .mv (.k (.nils))⟩])
  (.seq
   (.seq
    (.ops [⟨some 3, none, .mv (.t 0)⟩,
      ⟨some 4, none, .isnS false (.t 3)⟩])
    (.cond (.t 4)
     (.seq
      (.ops [⟨some 2, none, .mv (.k (.nils))⟩])
      .ret)
     .skip))
   (.keep [0]
    (.seq
     (.ops [⟨some 5, none, .bslice 10 1 0 [.int .i64 0] []⟩,
       ⟨some 6, none, .mv (.t 0)⟩,
       ⟨some 7, none, .app 10 1 (.t 5) (.t 6)⟩,
       ⟨some 2, none, .mv (.t 7)⟩])
     .ret)))) }
structure N156 (R : Env) : Prop where
  o156 : R.Fn 156 c156
/-- slices.IndexFunc[[]umbra.api.Point,umbra.api.Point][[]api.Point,umbra.api.Point] -/
def c217 : IFn := { np := 2, rs := [.t 4], body :=
 (.seq
  (.ops [⟨some 4, none, .mv (.k (.int .i64 0))⟩])
  (.seq
   (.seq
    (.ops [⟨some 6, none, .mv (.t 0)⟩,
      ⟨some 7, none, .lenS (.t 6)⟩,
      ⟨some 8, none, .mv (.k (.int .i64 0))⟩])
    (.keep [0, 1, 7, 8]
     (.block 0
      (.loop
       (.seq
        (.ops [⟨some 9, none, .bin .lss (.t 8) (.t 7)⟩])
        (.seq
         (.cond (.t 9)
          .skip
          (.exit 0))
         (.keep [0, 1, 7, 8]
          (.seq
           (.block 1
            (.seq
             (.ops [⟨some 10, none, .mv (.t 8)⟩,
               ⟨some 5, none, .mv (.t 10)⟩])
             (.seq
              (.ops [⟨some 11, none, .mv (.t 1)⟩,
                ⟨some 12, none, .mv (.t 0)⟩,
                ⟨some 13, none, .mv (.t 5)⟩,
                ⟨some 14, none, .idxS 3 (.t 12) (.t 13)⟩,
                ⟨some 15, none, .load true 3 (.t 14)⟩,
                ⟨some 16, none, .callv (.t 11) [.t 15]⟩])
              (.keep [0, 1, 5, 7, 8, 16]
               (.cond (.t 16)
                (.seq
                 (.ops [⟨some 17, none, .mv (.t 5)⟩,
                   ⟨some 4, none, .mv (.t 17)⟩])
                 .ret)
                .skip)))))
           (.keep [0, 1, 7, 8]
            (.ops [⟨some 18, none, .bin .add (.t 8) (.k (.int .i64 1))⟩,
              ⟨some 8, none, .mv (.t 18)⟩]))))))))))
   (.keep []
    (.seq
     (.ops [⟨some 4, none, .mv (.k (.int .i64 (-1)))⟩])
     .ret)))) }
structure N217 (R : Env) : Prop where
  o217 : R.Fn 217 c217
/-- slices.ContainsFunc[[]umbra.api.Point,umbra.api.Point][[]api.Point,umbra.api.Point] -/
def c209 : IFn := { np := 2, rs := [.t 4], body :=
 (.seq
  (.ops [⟨some 4, none, .mv (.k (.bool false))⟩])
  (.seq
   (.ops [⟨some 5, none, .mv (.t 0)⟩,
     ⟨some 6, none, .mv (.t 1)⟩,
     ⟨some 7, none, .call 217 [.t 5, .t 6]⟩,
     ⟨some 8, none, .bin .geq (.t 7) (.k (.int .i64 0))⟩,
     ⟨some 4, none, .mv (.t 8)⟩])
   (.keep [4]
    .ret))) }
structure N209 (R : Env) : Prop where
  o209 : R.Fn 209 c209
  n217 : N217 R
/-- slices.IndexFunc[[][2]int,[2]int][[][2]int,[2]int] -/
def c218 : IFn := { np := 2, rs := [.t 4], body :=
 (.seq
  (.ops [⟨some 4, none, .mv (.k (.int .i64 0))⟩])
  (.seq
   (.seq
    (.ops [⟨some 6, none, .mv (.t 0)⟩,
      ⟨some 7, none, .lenS (.t 6)⟩,
      ⟨some 8, none, .mv (.k (.int .i64 0))⟩])
    (.keep [0, 1, 7, 8]
     (.block 0
      (.loop
       (.seq
        (.ops [⟨some 9, none, .bin .lss (.t 8) (.t 7)⟩])
        (.seq
         (.cond (.t 9)
          .skip
          (.exit 0))
         (.keep [0, 1, 7, 8]
          (.seq
           (.block 1
            (.seq
             (.ops [⟨some 10, none, .mv (.t 8)⟩,
               ⟨some 5, none, .mv (.t 10)⟩])
             (.seq
              (.ops [⟨some 11, none, .mv (.t 1)⟩,
                ⟨some 12, none, .mv (.t 0)⟩,
                ⟨some 13, none, .mv (.t 5)⟩,
                ⟨some 14, none, .idxS 2 (.t 12) (.t 13)⟩,
                ⟨some 15, none, .load true 2 (.t 14)⟩,
                ⟨some 16, none, .callv (.t 11) [.t 15]⟩])
              (.keep [0, 1, 5, 7, 8, 16]
               (.cond (.t 16)
                (.seq
                 (.ops [⟨some 17, none, .mv (.t 5)⟩,
                   ⟨some 4, none, .mv (.t 17)⟩])
                 .ret)
                .skip)))))
           (.keep [0, 1, 7, 8]
            (.ops [⟨some 18, none, .bin .add (.t 8) (.k (.int .i64 1))⟩,
              ⟨some 8, none, .mv (.t 18)⟩]))))))))))
   (.keep []
    (.seq
     (.ops [⟨some 4, none, .mv (.k (.int .i64 (-1)))⟩])
     .ret)))) }
structure N218 (R : Env) : Prop where
  o218 : R.Fn 218 c218
/-- slices.ContainsFunc[[][2]int,[2]int][[][2]int,[2]int] -/
def c210 : IFn := { np := 2, rs := [.t 4], body :=
 (.seq
  (.ops [⟨some 4, none, .mv (.k (.bool false))⟩])
  (.seq
   (.ops [⟨some 5, none, .mv (.t 0)⟩,
     ⟨some 6, none, .mv (.t 1)⟩,
     ⟨some 7, none, .call 218 [.t 5, .t 6]⟩,
     ⟨some 8, none, .bin .geq (.t 7) (.k (.int .i64 0))⟩,
     ⟨some 4, none, .mv (.t 8)⟩])
   (.keep [4]
    .ret))) }
structure N210 (R : Env) : Prop where
  o210 : R.Fn 210 c210
  n218 : N218 R
/-- slices.IndexFunc[[][3]int,[3]int][[][3]int,[3]int] -/
def c219 : IFn := { np := 2, rs := [.t 4], body :=
 (.seq
  (.ops [⟨some 4, none, .mv (.k (.int .i64 0))⟩])
  (.seq
   (.seq
    (.ops [⟨some 6, none, .mv (.t 0)⟩,
      ⟨some 7, none, .lenS (.t 6)⟩,
      ⟨some 8, none, .mv (.k (.int .i64 0))⟩])
    (.keep [0, 1, 7, 8]
     (.block 0
      (.loop
       (.seq
        (.ops [⟨some 9, none, .bin .lss (.t 8) (.t 7)⟩])
        (.seq
         (.cond (.t 9)
          .skip
          (.exit 0))
         (.keep [0, 1, 7, 8]
          (.seq
           (.block 1
            (.seq
             (.ops [⟨some 10, none, .mv (.t 8)⟩,
               ⟨some 5, none, .mv (.t 10)⟩])
             (.seq
              (.ops [⟨some 11, none, .mv (.t 1)⟩,
                ⟨some 12, none, .mv (.t 0)⟩,
                ⟨some 13, none, .mv (.t 5)⟩,
                ⟨some 14, none, .idxS 3 (.t 12) (.t 13)⟩,
                ⟨some 15, none, .load true 3 (.t 14)⟩,
                ⟨some 16, none, .callv (.t 11) [.t 15]⟩])
              (.keep [0, 1, 5, 7, 8, 16]
               (.cond (.t 16)
                (.seq
                 (.ops [⟨some 17, none, .mv (.t 5)⟩,
                   ⟨some 4, none, .mv (.t 17)⟩])
                 .ret)
                .skip)))))
           (.keep [0, 1, 7, 8]
            (.ops [⟨some 18, none, .bin .add (.t 8) (.k (.int .i64 1))⟩,
              ⟨some 8, none, .mv (.t 18)⟩]))))))))))
   (.keep []
    (.seq
     (.ops [⟨some 4, none, .mv (.k (.int .i64 (-1)))⟩])
     .ret)))) }
structure N219 (R : Env) : Prop where
  o219 : R.Fn 219 c219
/-- slices.ContainsFunc[[][3]int,[3]int][[][3]int,[3]int] -/
def c211 : IFn := { np := 2, rs := [.t 4], body :=
 (.seq
  (.ops [⟨some 4, none, .mv (.k (.bool false))⟩])
  (.seq
   (.ops [⟨some 5, none, .mv (.t 0)⟩,
     ⟨some 6, none, .mv (.t 1)⟩,
     ⟨some 7, none, .call 219 [.t 5, .t 6]⟩,
     ⟨some 8, none, .bin .geq (.t 7) (.k (.int .i64 0))⟩,
     ⟨some 4, none, .mv (.t 8)⟩])
   (.keep [4]
    .ret))) }
structure N211 (R : Env) : Prop where
  o211 : R.Fn 211 c211
  n219 : N219 R
/-- math.bits.Mul64 -/
def c276 : IFn := { np := 2, rs := [.t 4, .t 5], body :=
 (.seq
  (.ops [⟨some 4, none, .mv (.k (.int .u64 0))⟩,
    ⟨some 5, none, .mv (.k (.int .u64 0))⟩])
  (.seq
   (.ops [⟨some 14, none, .mv (.t 0)⟩,
     ⟨some 15, none, .bin .and (.t 14) (.k (.int .u64 4294967295))⟩,
     ⟨some 6, none, .mv (.t 15)⟩])
   (.seq
    (.ops [⟨some 16, none, .mv (.t 0)⟩,
      ⟨some 17, none, .bin .shr (.t 16) (.k (.int .u64 32))⟩,
      ⟨some 7, none, .mv (.t 17)⟩])
    (.seq
     (.ops [⟨some 18, none, .mv (.t 1)⟩,
       ⟨some 19, none, .bin .and (.t 18) (.k (.int .u64 4294967295))⟩,
       ⟨some 8, none, .mv (.t 19)⟩])
     (.seq
      (.ops [⟨some 20, none, .mv (.t 1)⟩,
        ⟨some 21, none, .bin .shr (.t 20) (.k (.int .u64 32))⟩,
        ⟨some 9, none, .mv (.t 21)⟩])
      (.seq
       (.ops [⟨some 22, none, .mv (.t 6)⟩,
         ⟨some 23, none, .mv (.t 8)⟩,
         ⟨some 24, none, .bin .mul (.t 22) (.t 23)⟩,
         ⟨some 10, none, .mv (.t 24)⟩])
       (.seq
        (.ops [⟨some 25, none, .mv (.t 7)⟩,
          ⟨some 26, none, .mv (.t 8)⟩,
          ⟨some 27, none, .bin .mul (.t 25) (.t 26)⟩,
          ⟨some 28, none, .mv (.t 10)⟩,
          ⟨some 29, none, .bin .shr (.t 28) (.k (.int .u64 32))⟩,
          ⟨some 30, none, .bin .add (.t 27) (.t 29)⟩,
          ⟨some 11, none, .mv (.t 30)⟩])
        (.keep [0, 1, 6, 7, 9, 11]
         (.seq
          (.ops [⟨some 31, none, .mv (.t 11)⟩,
            ⟨some 32, none, .bin .and (.t 31) (.k (.int .u64 4294967295))⟩,
            ⟨some 12, none, .mv (.t 32)⟩])
          (.seq
           (.ops [⟨some 33, none, .mv (.t 11)⟩,
             ⟨some 34, none, .bin .shr (.t 33) (.k (.int .u64 32))⟩,
             ⟨some 13, none, .mv (.t 34)⟩])
           (.seq
            (.ops [⟨some 35, none, .mv (.t 12)⟩,
              ⟨some 36, none, .mv (.t 6)⟩,
              ⟨some 37, none, .mv (.t 9)⟩,
              ⟨some 38, none, .bin .mul (.t 36) (.t 37)⟩,
              ⟨some 39, none, .bin .add (.t 35) (.t 38)⟩,
              ⟨some 12, none, .mv (.t 39)⟩])
            (.keep [0, 1, 7, 9, 12, 13]
             (.seq
              (.ops [⟨some 40, none, .mv (.t 7)⟩,
                ⟨some 41, none, .mv (.t 9)⟩,
                ⟨some 42, none, .bin .mul (.t 40) (.t 41)⟩,
                ⟨some 43, none, .mv (.t 13)⟩,
                ⟨some 44, none, .bin .add (.t 42) (.t 43)⟩,
                ⟨some 45, none, .mv (.t 12)⟩,
                ⟨some 46, none, .bin .shr (.t 45) (.k (.int .u64 32))⟩,
                ⟨some 47, none, .bin .add (.t 44) (.t 46)⟩,
                ⟨some 4, none, .mv (.t 47)⟩])
              (.keep [0, 1, 4]
               (.seq
                (.ops [⟨some 48, none, .mv (.t 0)⟩,
                  ⟨some 49, none, .mv (.t 1)⟩,
                  ⟨some 50, none, .bin .mul (.t 48) (.t 49)⟩,
                  ⟨some 5, none, .mv (.t 50)⟩])
                .ret))))))))))))))) }
structure N276 (R : Env) : Prop where
  o276 : R.Fn 276 c276
/-- slices.IndexFunc[[]int,int][[]int,int] -/
def c324 : IFn := { np := 2, rs := [.t 4], body :=
 (.seq
  (.ops [⟨some 4, none, .mv (.k (.int .i64 0))⟩])
  (.seq
   (.seq
    (.ops [⟨some 6, none, .mv (.t 0)⟩,
      ⟨some 7, none, .lenS (.t 6)⟩,
      ⟨some 8, none, .mv (.k (.int .i64 0))⟩])
    (.keep [0, 1, 7, 8]
     (.block 0
      (.loop
       (.seq
        (.ops [⟨some 9, none, .bin .lss (.t 8) (.t 7)⟩])
        (.seq
         (.cond (.t 9)
          .skip
          (.exit 0))
         (.keep [0, 1, 7, 8]
          (.seq
           (.block 1
            (.seq
             (.ops [⟨some 10, none, .mv (.t 8)⟩,
               ⟨some 5, none, .mv (.t 10)⟩])
             (.seq
              (.ops [⟨some 11, none, .mv (.t 1)⟩,
                ⟨some 12, none, .mv (.t 0)⟩,
                ⟨some 13, none, .mv (.t 5)⟩,
                ⟨some 14, none, .idxS 1 (.t 12) (.t 13)⟩,
                ⟨some 15, none, .load false 1 (.t 14)⟩,
                ⟨some 16, none, .callv (.t 11) [.t 15]⟩])
              (.keep [0, 1, 5, 7, 8, 16]
               (.cond (.t 16)
                (.seq
                 (.ops [⟨some 17, none, .mv (.t 5)⟩,
                   ⟨some 4, none, .mv (.t 17)⟩])
                 .ret)
                .skip)))))
           (.keep [0, 1, 7, 8]
            (.ops [⟨some 18, none, .bin .add (.t 8) (.k (.int .i64 1))⟩,
              ⟨some 8, none, .mv (.t 18)⟩]))))))))))
   (.keep []
    (.seq
     (.ops [⟨some 4, none, .mv (.k (.int .i64 (-1)))⟩])
     .ret)))) }
structure N324 (R : Env) : Prop where
  o324 : R.Fn 324 c324
/-- slices.ContainsFunc[[]int,int][[]int,int] -/
def c323 : IFn := { np := 2, rs := [.t 4], body :=
 (.seq
  (.ops [⟨some 4, none, .mv (.k (.bool false))⟩])
  (.seq
   (.ops [⟨some 5, none, .mv (.t 0)⟩,
     ⟨some 6, none, .mv (.t 1)⟩,
     ⟨some 7, none, .call 324 [.t 5, .t 6]⟩,
     ⟨some 8, none, .bin .geq (.t 7) (.k (.int .i64 0))⟩,
     ⟨some 4, none, .mv (.t 8)⟩])
   (.keep [4]
    .ret))) }
structure N323 (R : Env) : Prop where
  o323 : R.Fn 323 c323
  n324 : N324 R
/-- slices.Clone[[]umbra.api.Point,umbra.api.Point][[]api.Point,umbra.api.Point] -/
def c361 : IFn := { np := 1, rs := [.t 2], body :=
 (.seq
  (.ops [⟨some 2, none, .mv (.k (.nils))⟩])
  (.seq
   (.seq
    (.ops [⟨some 3, none, .mv (.t 0)⟩,
      ⟨some 4, none, .isnS false (.t 3)⟩])
    (.cond (.t 4)
     (.seq
      (.ops [⟨some 2, none, .mv (.k (.nils))⟩])
      .ret)
     .skip))
   (.keep [0]
    (.seq
     (.ops [⟨some 5, none, .bslice 26 3 0 [.int .i64 0, .int .i64 0, .int .i64 0] []⟩,
       ⟨some 6, none, .mv (.t 0)⟩,
       ⟨some 7, none, .app 26 3 (.t 5) (.t 6)⟩,
       ⟨some 2, none, .mv (.t 7)⟩])
     .ret)))) }
structure N361 (R : Env) : Prop where
  o361 : R.Fn 361 c361
/-- slices.Clone[[][2]int,[2]int][[][2]int,[2]int] -/
def c362 : IFn := { np := 1, rs := [.t 2], body :=
 (.seq
  (.ops [⟨some 2, none, .mv (.k (.nils))⟩])
  (.seq
   (.seq
    (.ops [⟨some 3, none, .mv (.t 0)⟩,
      ⟨some 4, none, .isnS false (.t 3)⟩])
    (.cond (.t 4)
     (.seq
      (.ops [⟨some 2, none, .mv (.k (.nils))⟩])
      .ret)
     .skip))
   (.keep [0]
    (.seq
     (.ops [⟨some 5, none, .bslice 18 2 0 [.int .i64 0, .int .i64 0] []⟩,
       ⟨some 6, none, .mv (.t 0)⟩,
       ⟨some 7, none, .app 18 2 (.t 5) (.t 6)⟩,
       ⟨some 2, none, .mv (.t 7)⟩])
     .ret)))) }
structure N362 (R : Env) : Prop where
  o362 : R.Fn 362 c362
end Go.UM

/- The resolved code of package codec, function by function; numbers are those of the register, the same for all programs. -/

namespace Go.UM
open Go.AM
/-- umbra.codec.Put -/
def c54 : IFn := { np := 3, rs := [.t 6, .t 7], body :=
 (.seq
  (.ops [⟨some 6, none, .mv (.k (.nils))⟩,
    ⟨some 7, none, .mv (.k (.int .i64 0))⟩])
  (.seq
   (.seq
    (.ops [⟨some 12, none, .mv (.t 1)⟩,
      ⟨some 13, none, .bin .lss (.t 12) (.k (.int .i64 1))⟩,
      ⟨some 14, none, .mv (.t 13)⟩,
      ⟨some 15, some (14, false), .mv (.t 1)⟩,
      ⟨some 16, some (14, false), .bin .gtr (.t 15) (.k (.int .i64 8))⟩,
      ⟨some 17, none, .pick (.t 14) (.k (.bool true)) (.t 16)⟩])
    (.keep [0, 1, 2, 17]
     (.cond (.t 17)
      (.seq
       (.ops [⟨some 6, none, .mv (.k (.nils))⟩,
         ⟨some 7, none, .mv (.k (.int .i64 2))⟩])
       .ret)
      .skip)))
   (.keep [0, 1, 2]
    (.seq
     (.ops [⟨some 18, none, .mv (.t 0)⟩,
       ⟨some 19, none, .call 62 [.t 18]⟩,
       ⟨some 8, none, .mv (.t 19)⟩])
     (.seq
      (.seq
       (.ops [⟨some 20, none, .mv (.t 2)⟩,
         ⟨some 21, none, .lenS (.t 20)⟩,
         ⟨some 22, none, .mv (.k (.int .i64 0))⟩])
       (.keep [1, 8, 20, 21, 22]
        (.block 0
         (.loop
          (.seq
           (.ops [⟨some 23, none, .bin .lss (.t 22) (.t 21)⟩])
           (.seq
            (.cond (.t 23)
             .skip
             (.exit 0))
            (.keep [1, 8, 20, 21, 22]
             (.seq
              (.block 1
               (.seq
                (.ops [⟨some 24, none, .idxS 1 (.t 20) (.t 22)⟩,
                  ⟨some 25, none, .load false 1 (.t 24)⟩,
                  ⟨some 10, none, .mv (.t 25)⟩])
                (.seq
                 (.seq
                  (.ops [⟨some 26, none, .mv (.t 1)⟩,
                    ⟨some 27, none, .bin .lss (.t 26) (.k (.int .i64 8))⟩,
                    ⟨some 28, none, .mv (.t 27)⟩,
                    ⟨some 29, some (28, true), .mv (.t 10)⟩,
                    ⟨some 30, some (28, true), .mv (.t 1)⟩,
                    ⟨some 31, some (28, true), .bin .mul (.k (.int .i64 8)) (.t 30)⟩,
                    ⟨some 32, some (28, true), .bin .shr (.t 29) (.t 31)⟩,
                    ⟨some 33, some (28, true), .bin .gtr (.t 32) (.k (.int .u64 0))⟩,
                    ⟨some 34, none, .pick (.t 28) (.t 33) (.k (.bool false))⟩])
                  (.keep [1, 8, 10, 20, 21, 22, 34]
                   (.cond (.t 34)
                    (.seq
                     (.ops [⟨some 6, none, .mv (.k (.nils))⟩,
                       ⟨some 7, none, .mv (.k (.int .i64 3))⟩])
                     .ret)
                    .skip)))
                 (.keep [1, 8, 10, 20, 21, 22]
                  (.seq
                   (.ops [⟨some 35, none, .mv (.t 1)⟩,
                     ⟨some 36, none, .mv (.k (.int .i64 0))⟩])
                   (.keep [1, 8, 10, 20, 21, 22, 35, 36]
                    (.block 2
                     (.loop
                      (.seq
                       (.ops [⟨some 37, none, .bin .lss (.t 36) (.t 35)⟩])
                       (.seq
                        (.cond (.t 37)
                         .skip
                         (.exit 2))
                        (.keep [1, 8, 10, 20, 21, 22, 35, 36]
                         (.seq
                          (.block 3
                           (.seq
                            (.ops [⟨some 38, none, .mv (.t 36)⟩,
                              ⟨some 11, none, .mv (.t 38)⟩])
                            (.ops [⟨some 39, none, .mv (.t 8)⟩,
                              ⟨some 40, none, .mv (.t 10)⟩,
                              ⟨some 41, none, .mv (.t 11)⟩,
                              ⟨some 42, none, .bin .mul (.k (.int .i64 8)) (.t 41)⟩,
                              ⟨some 43, none, .bin .shr (.t 40) (.t 42)⟩,
                              ⟨some 44, none, .conv .u8 (.t 43)⟩,
                              ⟨some 45, none, .bslice 4 1 1 [.int .u8 0] [(0, .t 44)]⟩,
                              ⟨some 46, none, .app 4 1 (.t 39) (.t 45)⟩,
                              ⟨some 8, none, .mv (.t 46)⟩])))
                          (.keep [1, 8, 10, 20, 21, 22, 35, 36]
                           (.ops [⟨some 47, none, .bin .add (.t 36) (.k (.int .i64 1))⟩,
                             ⟨some 36, none, .mv (.t 47)⟩]))))))))))))))
              (.keep [1, 8, 20, 21, 22]
               (.ops [⟨some 48, none, .bin .add (.t 22) (.k (.int .i64 1))⟩,
                 ⟨some 22, none, .mv (.t 48)⟩]))))))))))
      (.keep [8]
       (.seq
        (.ops [⟨some 49, none, .mv (.t 8)⟩,
          ⟨some 6, none, .mv (.t 49)⟩,
          ⟨some 7, none, .mv (.k (.int .i64 0))⟩])
        .ret))))))) }
structure N54 (R : Env) : Prop where
  o54 : R.Fn 54 c54
  n62 : N62 R
/-- umbra.codec.New -/
def c56 : IFn := { np := 1, rs := [.t 2], body :=
 (.seq
  (.ops [⟨some 2, none, .mv (.k (.nilp))⟩])
  (.seq
   (.ops [⟨some 3, none, .mv (.t 0)⟩,
     ⟨some 4, none, .call 62 [.t 3]⟩,
     ⟨some 5, none, .build [.nils, .int .i64 0, .bool false] [(0, 1, .t 4), (2, 1, .k (.bool true))]⟩,
     ⟨some 6, none, .box 9 (.t 5)⟩,
     ⟨some 2, none, .mv (.t 6)⟩])
   (.keep [2]
    .ret))) }
structure N56 (R : Env) : Prop where
  o56 : R.Fn 56 c56
  n62 : N62 R
/-- (*umbra.codec.Reader).none -/
def c64 : IFn := { np := 1, rs := [.t 2], body :=
 (.seq
  (.ops [⟨some 2, none, .mv (.k (.bool false))⟩])
  (.seq
   (.ops [⟨some 3, none, .mv (.t 0)⟩,
     ⟨some 4, none, .isn false (.t 3)⟩,
     ⟨some 5, none, .mv (.t 4)⟩,
     ⟨some 6, some (5, false), .mv (.t 0)⟩,
     ⟨some 7, some (5, false), .nilck (.t 6)⟩,
     ⟨some 8, some (5, false), .fldA 2 (.t 7)⟩,
     ⟨some 9, some (5, false), .load false 1 (.t 8)⟩,
     ⟨some 10, some (5, false), .un .not (.t 9)⟩,
     ⟨some 11, none, .pick (.t 5) (.k (.bool true)) (.t 10)⟩,
     ⟨some 2, none, .mv (.t 11)⟩])
   (.keep [2]
    .ret))) }
structure N64 (R : Env) : Prop where
  o64 : R.Fn 64 c64
/-- (*umbra.codec.Reader).Take -/
def c59 : IFn := { np := 2, rs := [.t 4], body :=
 (.seq
  (.ops [⟨some 4, none, .mv (.k (.nils))⟩])
  (.seq
   (.block 0
    (.seq
     (.ops [⟨some 7, none, .mv (.t 0)⟩,
       ⟨some 8, none, .call 64 [.t 7]⟩,
       ⟨some 9, none, .mv (.t 8)⟩,
       ⟨some 10, some (9, false), .mv (.t 0)⟩,
       ⟨some 11, some (9, false), .nilck (.t 10)⟩,
       ⟨some 12, some (9, false), .fldA 1 (.t 11)⟩,
       ⟨some 13, some (9, false), .load false 1 (.t 12)⟩,
       ⟨some 14, some (9, false), .bin .neq (.t 13) (.k (.int .i64 0))⟩,
       ⟨some 15, none, .pick (.t 9) (.k (.bool true)) (.t 14)⟩,
       ⟨some 6, none, .mv (.t 15)⟩])
     (.keep [0, 1, 6]
      (.cond (.t 6)
       (.seq
        (.ops [⟨some 4, none, .mv (.k (.nils))⟩])
        .ret)
       (.seq
        (.ops [⟨some 17, none, .mv (.t 1)⟩,
          ⟨some 18, none, .bin .lss (.t 17) (.k (.int .i64 0))⟩,
          ⟨some 16, none, .mv (.t 18)⟩])
        (.cond (.t 16)
         (.seq
          (.ops [⟨some 19, none, .mv (.t 0)⟩,
            ⟨some 20, none, .nilck (.t 19)⟩,
            ⟨some 21, none, .fldA 1 (.t 20)⟩,
            ⟨none, none, .store 1 (.t 21) (.k (.int .i64 2))⟩])
          (.seq
           (.ops [⟨some 4, none, .mv (.k (.nils))⟩])
           .ret))
         (.seq
          (.ops [⟨some 23, none, .mv (.t 1)⟩,
            ⟨some 24, none, .mv (.t 0)⟩,
            ⟨some 25, none, .nilck (.t 24)⟩,
            ⟨some 26, none, .fldA 0 (.t 25)⟩,
            ⟨some 27, none, .load false 1 (.t 26)⟩,
            ⟨some 28, none, .lenS (.t 27)⟩,
            ⟨some 29, none, .bin .gtr (.t 23) (.t 28)⟩,
            ⟨some 22, none, .mv (.t 29)⟩])
          (.keep [0, 1, 22]
           (.cond (.t 22)
            (.seq
             (.ops [⟨some 30, none, .mv (.t 0)⟩,
               ⟨some 31, none, .nilck (.t 30)⟩,
               ⟨some 32, none, .fldA 1 (.t 31)⟩,
               ⟨none, none, .store 1 (.t 32) (.k (.int .i64 4))⟩])
             (.seq
              (.ops [⟨some 4, none, .mv (.k (.nils))⟩])
              .ret))
            .skip)))))))))
   (.keep [0, 1]
    (.seq
     (.ops [⟨some 33, none, .mv (.t 0)⟩,
       ⟨some 34, none, .nilck (.t 33)⟩,
       ⟨some 35, none, .fldA 0 (.t 34)⟩,
       ⟨some 36, none, .load false 1 (.t 35)⟩,
       ⟨some 37, none, .mv (.t 1)⟩,
       ⟨some 38, none, .mv (.t 1)⟩,
       ⟨some 39, none, .slcS 4 1 (.t 36) none (some (.t 37)) (some (.t 38))⟩,
       ⟨some 5, none, .mv (.t 39)⟩])
     (.keep [0, 1, 5]
      (.seq
       (.ops [⟨some 40, none, .mv (.t 0)⟩,
         ⟨some 41, none, .mv (.t 0)⟩,
         ⟨some 42, none, .nilck (.t 41)⟩,
         ⟨some 43, none, .fldA 0 (.t 42)⟩,
         ⟨some 44, none, .load false 1 (.t 43)⟩,
         ⟨some 45, none, .mv (.t 1)⟩,
         ⟨some 46, none, .slcS 4 1 (.t 44) (some (.t 45)) none none⟩,
         ⟨some 47, none, .nilck (.t 40)⟩,
         ⟨some 48, none, .fldA 0 (.t 47)⟩,
         ⟨none, none, .store 1 (.t 48) (.t 46)⟩])
       (.keep [5]
        (.seq
         (.ops [⟨some 49, none, .mv (.t 5)⟩,
           ⟨some 4, none, .mv (.t 49)⟩])
         .ret)))))))) }
structure N59 (R : Env) : Prop where
  o59 : R.Fn 59 c59
  n64 : N64 R
/-- (*umbra.codec.Reader).Num -/
def c57 : IFn := { np := 2, rs := [.t 4], body :=
 (.seq
  (.ops [⟨some 4, none, .mv (.k (.int .u64 0))⟩])
  (.seq
   (.seq
    (.ops [⟨some 8, none, .mv (.t 1)⟩,
      ⟨some 9, none, .bin .lss (.t 8) (.k (.int .i64 1))⟩,
      ⟨some 10, none, .mv (.t 9)⟩,
      ⟨some 11, some (10, false), .mv (.t 1)⟩,
      ⟨some 12, some (10, false), .bin .gtr (.t 11) (.k (.int .i64 8))⟩,
      ⟨some 13, none, .pick (.t 10) (.k (.bool true)) (.t 12)⟩])
    (.keep [0, 1, 13]
     (.cond (.t 13)
      (.ops [⟨some 1, none, .mv (.k (.int .i64 (-1)))⟩])
      .skip)))
   (.keep [0, 1]
    (.seq
     (.ops [⟨some 5, none, .mv (.k (.int .u64 0))⟩])
     (.seq
      (.seq
       (.ops [⟨some 14, none, .mv (.t 0)⟩,
         ⟨some 15, none, .mv (.t 1)⟩,
         ⟨some 16, none, .call 59 [.t 14, .t 15]⟩,
         ⟨some 17, none, .lenS (.t 16)⟩,
         ⟨some 18, none, .mv (.k (.int .i64 0))⟩])
       (.keep [5, 16, 17, 18]
        (.block 0
         (.loop
          (.seq
           (.ops [⟨some 19, none, .bin .lss (.t 18) (.t 17)⟩])
           (.seq
            (.cond (.t 19)
             .skip
             (.exit 0))
            (.keep [5, 16, 17, 18]
             (.seq
              (.block 1
               (.seq
                (.ops [⟨some 20, none, .mv (.t 18)⟩,
                  ⟨some 21, none, .idxS 1 (.t 16) (.t 18)⟩,
                  ⟨some 22, none, .load false 1 (.t 21)⟩,
                  ⟨some 6, none, .mv (.t 20)⟩,
                  ⟨some 7, none, .mv (.t 22)⟩])
                (.keep [5, 6, 7, 16, 17, 18]
                 (.ops [⟨some 23, none, .mv (.t 5)⟩,
                   ⟨some 24, none, .mv (.t 7)⟩,
                   ⟨some 25, none, .conv .u64 (.t 24)⟩,
                   ⟨some 26, none, .mv (.t 6)⟩,
                   ⟨some 27, none, .bin .mul (.k (.int .i64 8)) (.t 26)⟩,
                   ⟨some 28, none, .bin .shl (.t 25) (.t 27)⟩,
                   ⟨some 29, none, .bin .or (.t 23) (.t 28)⟩,
                   ⟨some 5, none, .mv (.t 29)⟩]))))
              (.keep [5, 16, 17, 18]
               (.ops [⟨some 30, none, .bin .add (.t 18) (.k (.int .i64 1))⟩,
                 ⟨some 18, none, .mv (.t 30)⟩]))))))))))
      (.keep [5]
       (.seq
        (.ops [⟨some 31, none, .mv (.t 5)⟩,
          ⟨some 4, none, .mv (.t 31)⟩])
        .ret))))))) }
structure N57 (R : Env) : Prop where
  o57 : R.Fn 57 c57
  n59 : N59 R
/-- (*umbra.codec.Reader).Err -/
def c65 : IFn := { np := 1, rs := [.t 2], body :=
 (.seq
  (.ops [⟨some 2, none, .mv (.k (.int .i64 0))⟩])
  (.seq
   (.seq
    (.ops [⟨some 3, none, .mv (.t 0)⟩,
      ⟨some 4, none, .call 64 [.t 3]⟩])
    (.cond (.t 4)
     (.seq
      (.ops [⟨some 2, none, .mv (.k (.int .i64 1))⟩])
      .ret)
     .skip))
   (.keep [0]
    (.seq
     (.ops [⟨some 5, none, .mv (.t 0)⟩,
       ⟨some 6, none, .nilck (.t 5)⟩,
       ⟨some 7, none, .fldA 1 (.t 6)⟩,
       ⟨some 8, none, .load false 1 (.t 7)⟩,
       ⟨some 2, none, .mv (.t 8)⟩])
     (.keep [2]
      .ret))))) }
structure N65 (R : Env) : Prop where
  o65 : R.Fn 65 c65
  n64 : N64 R
/-- (*umbra.codec.Reader).End -/
def c60 : IFn := { np := 1, rs := [.t 2], body :=
 (.seq
  (.ops [⟨some 2, none, .mv (.k (.int .i64 0))⟩])
  (.seq
   (.seq
    (.ops [⟨some 4, none, .mv (.t 0)⟩,
      ⟨some 5, none, .call 65 [.t 4]⟩,
      ⟨some 3, none, .mv (.t 5)⟩])
    (.seq
     (.ops [⟨some 6, none, .mv (.t 3)⟩,
       ⟨some 7, none, .bin .neq (.t 6) (.k (.int .i64 0))⟩])
     (.cond (.t 7)
      (.seq
       (.ops [⟨some 8, none, .mv (.t 3)⟩,
         ⟨some 2, none, .mv (.t 8)⟩])
       .ret)
      .skip)))
   (.keep [0]
    (.seq
     (.seq
      (.ops [⟨some 9, none, .mv (.t 0)⟩,
        ⟨some 10, none, .nilck (.t 9)⟩,
        ⟨some 11, none, .fldA 0 (.t 10)⟩,
        ⟨some 12, none, .load false 1 (.t 11)⟩,
        ⟨some 13, none, .lenS (.t 12)⟩,
        ⟨some 14, none, .bin .gtr (.t 13) (.k (.int .i64 0))⟩])
      (.keep [14]
       (.cond (.t 14)
        (.seq
         (.ops [⟨some 2, none, .mv (.k (.int .i64 5))⟩])
         .ret)
        .skip)))
     (.keep []
      (.seq
       (.ops [⟨some 2, none, .mv (.k (.int .i64 0))⟩])
       .ret)))))) }
structure N60 (R : Env) : Prop where
  o60 : R.Fn 60 c60
  n65 : N65 R
/-- (*umbra.codec.Reader).Left -/
def c68 : IFn := { np := 1, rs := [.t 2], body :=
 (.seq
  (.ops [⟨some 2, none, .mv (.k (.int .i64 0))⟩])
  (.seq
   (.seq
    (.ops [⟨some 3, none, .mv (.t 0)⟩,
      ⟨some 4, none, .call 64 [.t 3]⟩,
      ⟨some 5, none, .mv (.t 4)⟩,
      ⟨some 6, some (5, false), .mv (.t 0)⟩,
      ⟨some 7, some (5, false), .nilck (.t 6)⟩,
      ⟨some 8, some (5, false), .fldA 1 (.t 7)⟩,
      ⟨some 9, some (5, false), .load false 1 (.t 8)⟩,
      ⟨some 10, some (5, false), .bin .neq (.t 9) (.k (.int .i64 0))⟩,
      ⟨some 11, none, .pick (.t 5) (.k (.bool true)) (.t 10)⟩])
    (.keep [0, 11]
     (.cond (.t 11)
      (.seq
       (.ops [⟨some 2, none, .mv (.k (.int .i64 0))⟩])
       .ret)
      .skip)))
   (.keep [0]
    (.seq
     (.ops [⟨some 12, none, .mv (.t 0)⟩,
       ⟨some 13, none, .nilck (.t 12)⟩,
       ⟨some 14, none, .fldA 0 (.t 13)⟩,
       ⟨some 15, none, .load false 1 (.t 14)⟩,
       ⟨some 16, none, .lenS (.t 15)⟩,
       ⟨some 2, none, .mv (.t 16)⟩])
     (.keep [2]
      .ret))))) }
structure N68 (R : Env) : Prop where
  o68 : R.Fn 68 c68
  n64 : N64 R
/-- umbra.codec.Signed -/
def c71 : IFn := { np := 3, rs := [.t 6, .t 7], body :=
 (.seq
  (.ops [⟨some 6, none, .mv (.k (.nils))⟩,
    ⟨some 7, none, .mv (.k (.int .i64 0))⟩])
  (.seq
   (.seq
    (.ops [⟨some 12, none, .mv (.t 1)⟩,
      ⟨some 13, none, .bin .lss (.t 12) (.k (.int .i64 1))⟩,
      ⟨some 14, none, .mv (.t 13)⟩,
      ⟨some 15, some (14, false), .mv (.t 1)⟩,
      ⟨some 16, some (14, false), .bin .gtr (.t 15) (.k (.int .i64 8))⟩,
      ⟨some 17, none, .pick (.t 14) (.k (.bool true)) (.t 16)⟩])
    (.keep [0, 1, 2, 17]
     (.cond (.t 17)
      (.seq
       (.ops [⟨some 6, none, .mv (.k (.nils))⟩,
         ⟨some 7, none, .mv (.k (.int .i64 2))⟩])
       .ret)
      .skip)))
   (.keep [0, 1, 2]
    (.seq
     (.ops [⟨some 8, none, .mv (.k (.nils))⟩])
     (.seq
      (.seq
       (.ops [⟨some 18, none, .mv (.t 2)⟩,
         ⟨some 19, none, .lenS (.t 18)⟩,
         ⟨some 20, none, .mv (.k (.int .i64 0))⟩])
       (.keep [0, 1, 8, 18, 19, 20]
        (.block 0
         (.loop
          (.seq
           (.ops [⟨some 21, none, .bin .lss (.t 20) (.t 19)⟩])
           (.seq
            (.cond (.t 21)
             .skip
             (.exit 0))
            (.keep [0, 1, 8, 18, 19, 20]
             (.seq
              (.block 1
               (.seq
                (.ops [⟨some 22, none, .idxS 1 (.t 18) (.t 20)⟩,
                  ⟨some 23, none, .load false 1 (.t 22)⟩,
                  ⟨some 10, none, .mv (.t 23)⟩])
                (.seq
                 (.seq
                  (.ops [⟨some 24, none, .mv (.t 10)⟩,
                    ⟨some 25, none, .mv (.t 1)⟩,
                    ⟨some 26, none, .bin .mul (.k (.int .i64 8)) (.t 25)⟩,
                    ⟨some 27, none, .bin .sub (.k (.int .i64 64)) (.t 26)⟩,
                    ⟨some 28, none, .bin .shl (.t 24) (.t 27)⟩,
                    ⟨some 29, none, .mv (.t 1)⟩,
                    ⟨some 30, none, .bin .mul (.k (.int .i64 8)) (.t 29)⟩,
                    ⟨some 31, none, .bin .sub (.k (.int .i64 64)) (.t 30)⟩,
                    ⟨some 32, none, .bin .shr (.t 28) (.t 31)⟩,
                    ⟨some 11, none, .mv (.t 32)⟩])
                  (.keep [0, 1, 8, 10, 11, 18, 19, 20]
                   (.seq
                    (.ops [⟨some 33, none, .mv (.t 11)⟩,
                      ⟨some 34, none, .mv (.t 10)⟩,
                      ⟨some 35, none, .bin .neq (.t 33) (.t 34)⟩])
                    (.cond (.t 35)
                     (.seq
                      (.ops [⟨some 6, none, .mv (.k (.nils))⟩,
                        ⟨some 7, none, .mv (.k (.int .i64 3))⟩])
                      .ret)
                     .skip))))
                 (.keep [0, 1, 8, 10, 18, 19, 20]
                  (.ops [⟨some 36, none, .mv (.t 8)⟩,
                    ⟨some 37, none, .mv (.t 10)⟩,
                    ⟨some 38, none, .conv .u64 (.t 37)⟩,
                    ⟨some 39, none, .mv (.t 1)⟩,
                    ⟨some 40, none, .bin .mul (.k (.int .i64 8)) (.t 39)⟩,
                    ⟨some 41, none, .bin .sub (.k (.int .i64 64)) (.t 40)⟩,
                    ⟨some 42, none, .bin .shl (.t 38) (.t 41)⟩,
                    ⟨some 43, none, .mv (.t 1)⟩,
                    ⟨some 44, none, .bin .mul (.k (.int .i64 8)) (.t 43)⟩,
                    ⟨some 45, none, .bin .sub (.k (.int .i64 64)) (.t 44)⟩,
                    ⟨some 46, none, .bin .shr (.t 42) (.t 45)⟩,
                    ⟨some 47, none, .bslice 6 1 1 [.int .u64 0] [(0, .t 46)]⟩,
                    ⟨some 48, none, .app 6 1 (.t 36) (.t 47)⟩,
                    ⟨some 8, none, .mv (.t 48)⟩])))))
              (.keep [0, 1, 8, 18, 19, 20]
               (.ops [⟨some 49, none, .bin .add (.t 20) (.k (.int .i64 1))⟩,
                 ⟨some 20, none, .mv (.t 49)⟩]))))))))))
      (.keep [0, 1, 8]
       (.seq
        (.ops [⟨some 50, none, .mv (.t 0)⟩,
          ⟨some 51, none, .mv (.t 1)⟩,
          ⟨some 52, none, .mv (.t 8)⟩,
          ⟨some 53, none, .call 54 [.t 50, .t 51, .t 52]⟩,
          ⟨some 54, none, .ext (.t 53) 0⟩,
          ⟨some 55, none, .ext (.t 53) 1⟩,
          ⟨some 6, none, .mv (.t 54)⟩,
          ⟨some 7, none, .mv (.t 55)⟩])
        (.keep [6, 7]
         .ret)))))))) }
structure N71 (R : Env) : Prop where
  o71 : R.Fn 71 c71
  n54 : N54 R
/-- (*umbra.codec.Reader).Int -/
def c76 : IFn := { np := 2, rs := [.t 4], body :=
 (.seq
  (.ops [⟨some 4, none, .mv (.k (.int .i64 0))⟩])
  (.seq
   (.ops [⟨some 6, none, .mv (.t 0)⟩,
     ⟨some 7, none, .mv (.t 1)⟩,
     ⟨some 8, none, .call 57 [.t 6, .t 7]⟩,
     ⟨some 5, none, .mv (.t 8)⟩])
   (.seq
    (.seq
     (.ops [⟨some 9, none, .mv (.t 1)⟩,
       ⟨some 10, none, .bin .lss (.t 9) (.k (.int .i64 1))⟩,
       ⟨some 11, none, .mv (.t 10)⟩,
       ⟨some 12, some (11, false), .mv (.t 1)⟩,
       ⟨some 13, some (11, false), .bin .gtr (.t 12) (.k (.int .i64 8))⟩,
       ⟨some 14, none, .pick (.t 11) (.k (.bool true)) (.t 13)⟩])
     (.keep [1, 5, 14]
      (.cond (.t 14)
       (.seq
        (.ops [⟨some 4, none, .mv (.k (.int .i64 0))⟩])
        .ret)
       .skip)))
    (.keep [1, 5]
     (.seq
      (.ops [⟨some 15, none, .mv (.t 5)⟩,
        ⟨some 16, none, .conv .i64 (.t 15)⟩,
        ⟨some 17, none, .mv (.t 1)⟩,
        ⟨some 18, none, .bin .mul (.k (.int .i64 8)) (.t 17)⟩,
        ⟨some 19, none, .bin .sub (.k (.int .i64 64)) (.t 18)⟩,
        ⟨some 20, none, .bin .shl (.t 16) (.t 19)⟩,
        ⟨some 21, none, .mv (.t 1)⟩,
        ⟨some 22, none, .bin .mul (.k (.int .i64 8)) (.t 21)⟩,
        ⟨some 23, none, .bin .sub (.k (.int .i64 64)) (.t 22)⟩,
        ⟨some 24, none, .bin .shr (.t 20) (.t 23)⟩,
        ⟨some 4, none, .mv (.t 24)⟩])
      (.keep [4]
       .ret)))))) }
structure N76 (R : Env) : Prop where
  o76 : R.Fn 76 c76
  n57 : N57 R
end Go.UM

/- The resolved code of package texture, function by function; numbers are those of the register, the same for all programs. -/


namespace Go.UM
open Go.AM
/-- umbra.texture.Check -/
def c84 : IFn := { np := 1, rs := [.t 2], body :=
 (.seq
  (.ops [⟨some 1, none, .box 12 (.t 0)⟩,
    ⟨some 2, none, .mv (.k (.int .i64 0))⟩])
  (.seq
   (.seq
    (.ops [⟨some 5, none, .bslice 10 1 5 [.int .i64 0] [(0, .k (.int .i64 1)), (1, .k (.int .i64 2)), (2, .k (.int .i64 4)), (3, .k (.int .i64 8)), (4, .k (.int .i64 16))]⟩,
      ⟨some 6, none, .fldA 0 (.t 1)⟩,
      ⟨some 7, none, .load false 1 (.t 6)⟩,
      ⟨some 8, none, .call 100 [.t 5, .t 7]⟩,
      ⟨some 9, none, .un .not (.t 8)⟩,
      ⟨some 10, none, .mv (.t 9)⟩,
      ⟨some 11, some (10, false), .fldA 1 (.t 1)⟩,
      ⟨some 12, some (10, false), .load false 1 (.t 11)⟩,
      ⟨some 13, some (10, false), .lenS (.t 12)⟩,
      ⟨some 14, some (10, false), .fldA 0 (.t 1)⟩,
      ⟨some 15, some (10, false), .load false 1 (.t 14)⟩,
      ⟨some 16, some (10, false), .fldA 0 (.t 1)⟩,
      ⟨some 17, some (10, false), .load false 1 (.t 16)⟩,
      ⟨some 18, some (10, false), .bin .mul (.t 15) (.t 17)⟩,
      ⟨some 19, some (10, false), .bin .neq (.t 13) (.t 18)⟩,
      ⟨some 20, none, .pick (.t 10) (.k (.bool true)) (.t 19)⟩])
    (.keep [1, 20]
     (.cond (.t 20)
      (.seq
       (.ops [⟨some 2, none, .mv (.k (.int .i64 5))⟩])
       .ret)
      .skip)))
   (.keep [1]
    (.seq
     (.seq
      (.ops [⟨some 21, none, .fldA 1 (.t 1)⟩,
        ⟨some 22, none, .load false 1 (.t 21)⟩,
        ⟨some 23, none, .lenS (.t 22)⟩,
        ⟨some 24, none, .mv (.k (.int .i64 0))⟩])
      (.keep [22, 23, 24]
       (.block 0
        (.loop
         (.seq
          (.ops [⟨some 25, none, .bin .lss (.t 24) (.t 23)⟩])
          (.seq
           (.cond (.t 25)
            .skip
            (.exit 0))
           (.keep [22, 23, 24]
            (.seq
             (.block 1
              (.seq
               (.ops [⟨some 26, none, .idxS 3 (.t 22) (.t 24)⟩,
                 ⟨some 27, none, .load true 3 (.t 26)⟩,
                 ⟨some 4, none, .alloc 13 [.int .i64 0, .int .i64 0, .int .i64 0]⟩,
                 ⟨none, none, .store 3 (.t 4) (.t 27)⟩])
               (.seq
                (.ops [⟨some 28, none, .idxA 3 1 (.t 4) (.k (.int .i64 0))⟩,
                  ⟨some 29, none, .load false 1 (.t 28)⟩,
                  ⟨some 30, none, .idxA 3 1 (.t 4) (.k (.int .i64 1))⟩,
                  ⟨some 31, none, .load false 1 (.t 30)⟩,
                  ⟨some 32, none, .idxA 3 1 (.t 4) (.k (.int .i64 2))⟩,
                  ⟨some 33, none, .load false 1 (.t 32)⟩,
                  ⟨some 34, none, .mm false [.t 29, .t 31, .t 33]⟩,
                  ⟨some 35, none, .bin .lss (.t 34) (.k (.int .i64 0))⟩,
                  ⟨some 36, none, .mv (.t 35)⟩,
                  ⟨some 37, some (36, false), .idxA 3 1 (.t 4) (.k (.int .i64 0))⟩,
                  ⟨some 38, some (36, false), .load false 1 (.t 37)⟩,
                  ⟨some 39, some (36, false), .idxA 3 1 (.t 4) (.k (.int .i64 1))⟩,
                  ⟨some 40, some (36, false), .load false 1 (.t 39)⟩,
                  ⟨some 41, some (36, false), .idxA 3 1 (.t 4) (.k (.int .i64 2))⟩,
                  ⟨some 42, some (36, false), .load false 1 (.t 41)⟩,
                  ⟨some 43, some (36, false), .mm true [.t 38, .t 40, .t 42]⟩,
                  ⟨some 44, some (36, false), .bin .gtr (.t 43) (.k (.int .i64 255))⟩,
                  ⟨some 45, none, .pick (.t 36) (.k (.bool true)) (.t 44)⟩])
                (.keep [22, 23, 24, 45]
                 (.cond (.t 45)
                  (.seq
                   (.ops [⟨some 2, none, .mv (.k (.int .i64 5))⟩])
                   .ret)
                  .skip)))))
             (.keep [22, 23, 24]
              (.ops [⟨some 46, none, .bin .add (.t 24) (.k (.int .i64 1))⟩,
                ⟨some 24, none, .mv (.t 46)⟩]))))))))))
     (.keep []
      (.seq
       (.ops [⟨some 2, none, .mv (.k (.int .i64 0))⟩])
       .ret)))))) }
structure N84 (R : Env) : Prop where
  o84 : R.Fn 84 c84
  n100 : N100 R
/-- umbra.texture.Encode -/
def c82 : IFn := { np := 1, rs := [.t 2, .t 3], body :=
 (.seq
  (.ops [⟨some 1, none, .box 12 (.t 0)⟩,
    ⟨some 2, none, .mv (.k (.nils))⟩,
    ⟨some 3, none, .mv (.k (.int .i64 0))⟩])
  (.seq
   (.seq
    (.ops [⟨some 8, none, .load true 2 (.t 1)⟩,
      ⟨some 9, none, .call 84 [.t 8]⟩,
      ⟨some 4, none, .mv (.t 9)⟩])
    (.seq
     (.ops [⟨some 10, none, .mv (.t 4)⟩,
       ⟨some 11, none, .bin .neq (.t 10) (.k (.int .i64 0))⟩])
     (.cond (.t 11)
      (.seq
       (.ops [⟨some 12, none, .mv (.t 4)⟩,
         ⟨some 2, none, .mv (.k (.nils))⟩,
         ⟨some 3, none, .mv (.t 12)⟩])
       .ret)
      .skip)))
   (.keep [1]
    (.seq
     (.ops [⟨some 13, none, .fldA 0 (.t 1)⟩,
       ⟨some 14, none, .load false 1 (.t 13)⟩,
       ⟨some 15, none, .conv .u8 (.t 14)⟩,
       ⟨some 16, none, .bslice 4 1 1 [.int .u8 0] [(0, .t 15)]⟩,
       ⟨some 5, none, .mv (.t 16)⟩])
     (.keep [1, 5]
      (.seq
       (.seq
        (.ops [⟨some 17, none, .fldA 1 (.t 1)⟩,
          ⟨some 18, none, .load false 1 (.t 17)⟩,
          ⟨some 19, none, .lenS (.t 18)⟩,
          ⟨some 20, none, .mv (.k (.int .i64 0))⟩])
        (.keep [5, 18, 19, 20]
         (.block 0
          (.loop
           (.seq
            (.ops [⟨some 21, none, .bin .lss (.t 20) (.t 19)⟩])
            (.seq
             (.cond (.t 21)
              .skip
              (.exit 0))
             (.keep [5, 18, 19, 20]
              (.seq
               (.block 1
                (.seq
                 (.ops [⟨some 22, none, .idxS 3 (.t 18) (.t 20)⟩,
                   ⟨some 23, none, .load true 3 (.t 22)⟩,
                   ⟨some 7, none, .alloc 13 [.int .i64 0, .int .i64 0, .int .i64 0]⟩,
                   ⟨none, none, .store 3 (.t 7) (.t 23)⟩])
                 (.ops [⟨some 24, none, .mv (.t 5)⟩,
                   ⟨some 25, none, .idxA 3 1 (.t 7) (.k (.int .i64 0))⟩,
                   ⟨some 26, none, .load false 1 (.t 25)⟩,
                   ⟨some 27, none, .conv .u8 (.t 26)⟩,
                   ⟨some 28, none, .idxA 3 1 (.t 7) (.k (.int .i64 1))⟩,
                   ⟨some 29, none, .load false 1 (.t 28)⟩,
                   ⟨some 30, none, .conv .u8 (.t 29)⟩,
                   ⟨some 31, none, .idxA 3 1 (.t 7) (.k (.int .i64 2))⟩,
                   ⟨some 32, none, .load false 1 (.t 31)⟩,
                   ⟨some 33, none, .conv .u8 (.t 32)⟩,
                   ⟨some 34, none, .bslice 4 1 3 [.int .u8 0] [(0, .t 27), (1, .t 30), (2, .t 33)]⟩,
                   ⟨some 35, none, .app 4 1 (.t 24) (.t 34)⟩,
                   ⟨some 5, none, .mv (.t 35)⟩])))
               (.keep [5, 18, 19, 20]
                (.ops [⟨some 36, none, .bin .add (.t 20) (.k (.int .i64 1))⟩,
                  ⟨some 20, none, .mv (.t 36)⟩]))))))))))
       (.keep [5]
        (.seq
         (.ops [⟨some 37, none, .mv (.t 5)⟩,
           ⟨some 2, none, .mv (.t 37)⟩,
           ⟨some 3, none, .mv (.k (.int .i64 0))⟩])
         .ret)))))))) }
structure N82 (R : Env) : Prop where
  o82 : R.Fn 82 c82
  n84 : N84 R
/-- umbra.texture.at -/
def c104 : IFn := { np := 3, rs := [.cell 6 true 3], body :=
 (.seq
  (.ops [⟨some 3, none, .box 12 (.t 0)⟩,
    ⟨some 6, none, .alloc 13 [.int .i64 0, .int .i64 0, .int .i64 0]⟩])
  (.seq
   (.ops [⟨some 7, none, .fldA 1 (.t 3)⟩,
     ⟨some 8, none, .load false 1 (.t 7)⟩,
     ⟨some 9, none, .mv (.t 2)⟩,
     ⟨some 10, none, .fldA 0 (.t 3)⟩,
     ⟨some 11, none, .load false 1 (.t 10)⟩,
     ⟨some 12, none, .bin .sub (.t 11) (.k (.int .i64 1))⟩,
     ⟨some 13, none, .bin .and (.t 9) (.t 12)⟩,
     ⟨some 14, none, .fldA 0 (.t 3)⟩,
     ⟨some 15, none, .load false 1 (.t 14)⟩,
     ⟨some 16, none, .bin .mul (.t 13) (.t 15)⟩,
     ⟨some 17, none, .mv (.t 1)⟩,
     ⟨some 18, none, .fldA 0 (.t 3)⟩,
     ⟨some 19, none, .load false 1 (.t 18)⟩,
     ⟨some 20, none, .bin .sub (.t 19) (.k (.int .i64 1))⟩,
     ⟨some 21, none, .bin .and (.t 17) (.t 20)⟩,
     ⟨some 22, none, .bin .add (.t 16) (.t 21)⟩,
     ⟨some 23, none, .idxS 3 (.t 8) (.t 22)⟩,
     ⟨some 24, none, .load true 3 (.t 23)⟩,
     ⟨none, none, .store 3 (.t 6) (.t 24)⟩])
   (.keep [6]
    .ret))) }
structure N104 (R : Env) : Prop where
  o104 : R.Fn 104 c104
/-- umbra.texture.half -/
def c103 : IFn := { np := 1, rs := [.cell 2 true 2], body :=
 (.seq
  (.ops [⟨some 1, none, .box 12 (.t 0)⟩,
    ⟨some 2, none, .alloc 12 [.int .i64 0, .nils]⟩])
  (.seq
   (.ops [⟨some 13, none, .fldA 0 (.t 1)⟩,
     ⟨some 14, none, .load false 1 (.t 13)⟩,
     ⟨some 15, none, .bin .quo (.t 14) (.k (.int .i64 2))⟩,
     ⟨some 16, none, .build [.int .i64 0, .nils] [(0, 1, .t 15)]⟩,
     ⟨some 3, none, .alloc 12 [.int .i64 0, .nils]⟩,
     ⟨none, none, .store 2 (.t 3) (.t 16)⟩])
   (.keep [1, 2, 3]
    (.seq
     (.seq
      (.ops [⟨some 17, none, .fldA 0 (.t 3)⟩,
        ⟨some 18, none, .load false 1 (.t 17)⟩,
        ⟨some 19, none, .fldA 0 (.t 3)⟩,
        ⟨some 20, none, .load false 1 (.t 19)⟩,
        ⟨some 21, none, .bin .mul (.t 18) (.t 20)⟩,
        ⟨some 22, none, .mv (.k (.int .i64 0))⟩])
      (.keep [1, 2, 3, 21, 22]
       (.block 0
        (.loop
         (.seq
          (.ops [⟨some 23, none, .bin .lss (.t 22) (.t 21)⟩])
          (.seq
           (.cond (.t 23)
            .skip
            (.exit 0))
           (.keep [1, 2, 3, 21, 22]
            (.seq
             (.block 1
              (.seq
               (.ops [⟨some 24, none, .mv (.t 22)⟩,
                 ⟨some 4, none, .mv (.t 24)⟩])
               (.seq
                (.draw [0, 0, 2, 7, 15, 0, 0, 64, 224, 480, 31, 2047] [[4], [3], [26], [25, 27], [28], [4], [3], [31], [30, 32], [33], [29], [34]] [⟨some 25, none, .mv (.t 4)⟩,
                  ⟨some 26, none, .fldA 0 (.t 3)⟩,
                  ⟨some 27, none, .load false 1 (.t 26)⟩,
                  ⟨some 28, none, .bin .rem (.t 25) (.t 27)⟩,
                  ⟨some 29, none, .bin .mul (.k (.int .i64 2)) (.t 28)⟩,
                  ⟨some 30, none, .mv (.t 4)⟩,
                  ⟨some 31, none, .fldA 0 (.t 3)⟩,
                  ⟨some 32, none, .load false 1 (.t 31)⟩,
                  ⟨some 33, none, .bin .quo (.t 30) (.t 32)⟩,
                  ⟨some 34, none, .bin .mul (.k (.int .i64 2)) (.t 33)⟩,
                  ⟨some 5, none, .mv (.t 29)⟩,
                  ⟨some 6, none, .mv (.t 34)⟩])
                (.keep [1, 2, 3, 5, 6, 21, 22]
                 (.seq
                  (.draw [0, 0, 0, 7, 0, 0, 32, 0, 255, 0, 0, 0, 2048, 8191, 0, 0, 32768, 0, 131072, 524287, 0, 0, 0, 0, 16777215, 33554431, 67108863, 134217727] [[1], [5], [6], [35, 36, 37], [1], [5], [40], [6], [39, 41, 42], [1], [5], [6], [46], [44, 45, 47], [1], [5], [50], [6], [52], [49, 51, 53], [], [], [], [], [7, 38], [8, 43], [9, 48], [10, 54]] [⟨some 35, none, .load true 2 (.t 1)⟩,
                    ⟨some 36, none, .mv (.t 5)⟩,
                    ⟨some 37, none, .mv (.t 6)⟩,
                    ⟨some 38, none, .call 104 [.t 35, .t 36, .t 37]⟩,
                    ⟨some 39, none, .load true 2 (.t 1)⟩,
                    ⟨some 40, none, .mv (.t 5)⟩,
                    ⟨some 41, none, .bin .add (.t 40) (.k (.int .i64 1))⟩,
                    ⟨some 42, none, .mv (.t 6)⟩,
                    ⟨some 43, none, .call 104 [.t 39, .t 41, .t 42]⟩,
                    ⟨some 44, none, .load true 2 (.t 1)⟩,
                    ⟨some 45, none, .mv (.t 5)⟩,
                    ⟨some 46, none, .mv (.t 6)⟩,
                    ⟨some 47, none, .bin .add (.t 46) (.k (.int .i64 1))⟩,
                    ⟨some 48, none, .call 104 [.t 44, .t 45, .t 47]⟩,
                    ⟨some 49, none, .load true 2 (.t 1)⟩,
                    ⟨some 50, none, .mv (.t 5)⟩,
                    ⟨some 51, none, .bin .add (.t 50) (.k (.int .i64 1))⟩,
                    ⟨some 52, none, .mv (.t 6)⟩,
                    ⟨some 53, none, .bin .add (.t 52) (.k (.int .i64 1))⟩,
                    ⟨some 54, none, .call 104 [.t 49, .t 51, .t 53]⟩,
                    ⟨some 7, none, .alloc 13 [.int .i64 0, .int .i64 0, .int .i64 0]⟩,
                    ⟨some 8, none, .alloc 13 [.int .i64 0, .int .i64 0, .int .i64 0]⟩,
                    ⟨some 9, none, .alloc 13 [.int .i64 0, .int .i64 0, .int .i64 0]⟩,
                    ⟨some 10, none, .alloc 13 [.int .i64 0, .int .i64 0, .int .i64 0]⟩,
                    ⟨none, none, .store 3 (.t 7) (.t 38)⟩,
                    ⟨none, none, .store 3 (.t 8) (.t 43)⟩,
                    ⟨none, none, .store 3 (.t 9) (.t 48)⟩,
                    ⟨none, none, .store 3 (.t 10) (.t 54)⟩])
                  (.keep [1, 2, 3, 7, 8, 9, 10, 21, 22]
                   (.seq
                    (.ops [⟨some 11, none, .alloc 13 [.int .i64 0, .int .i64 0, .int .i64 0]⟩])
                    (.seq
                     (.seq
                      (.ops [⟨some 55, none, .mv (.k (.int .i64 0))⟩])
                      (.keep [1, 2, 3, 7, 8, 9, 10, 11, 21, 22, 55]
                       (.block 2
                        (.loop
                         (.seq
                          (.ops [⟨some 56, none, .bin .lss (.t 55) (.k (.int .i64 3))⟩])
                          (.seq
                           (.cond (.t 56)
                            .skip
                            (.exit 2))
                           (.keep [1, 2, 3, 7, 8, 9, 10, 11, 21, 22, 55]
                            (.seq
                             (.block 3
                              (.seq
                               (.ops [⟨some 57, none, .mv (.t 55)⟩,
                                 ⟨some 12, none, .mv (.t 57)⟩])
                               (.draw [0, 0, 2, 6, 0, 16, 48, 126, 0, 256, 768, 2046, 0, 4096, 12288, 32766, 65534, 131070, 262143, 524287] [[12], [12], [7, 59], [60], [12], [8, 62], [63], [61, 64], [12], [9, 66], [67], [65, 68], [12], [10, 70], [71], [69, 72], [73], [74], [11, 58], [76, 75]] [⟨some 58, none, .mv (.t 12)⟩,
                                 ⟨some 59, none, .mv (.t 12)⟩,
                                 ⟨some 60, none, .idxA 3 1 (.t 7) (.t 59)⟩,
                                 ⟨some 61, none, .load false 1 (.t 60)⟩,
                                 ⟨some 62, none, .mv (.t 12)⟩,
                                 ⟨some 63, none, .idxA 3 1 (.t 8) (.t 62)⟩,
                                 ⟨some 64, none, .load false 1 (.t 63)⟩,
                                 ⟨some 65, none, .bin .add (.t 61) (.t 64)⟩,
                                 ⟨some 66, none, .mv (.t 12)⟩,
                                 ⟨some 67, none, .idxA 3 1 (.t 9) (.t 66)⟩,
                                 ⟨some 68, none, .load false 1 (.t 67)⟩,
                                 ⟨some 69, none, .bin .add (.t 65) (.t 68)⟩,
                                 ⟨some 70, none, .mv (.t 12)⟩,
                                 ⟨some 71, none, .idxA 3 1 (.t 10) (.t 70)⟩,
                                 ⟨some 72, none, .load false 1 (.t 71)⟩,
                                 ⟨some 73, none, .bin .add (.t 69) (.t 72)⟩,
                                 ⟨some 74, none, .bin .add (.t 73) (.k (.int .i64 2))⟩,
                                 ⟨some 75, none, .bin .quo (.t 74) (.k (.int .i64 4))⟩,
                                 ⟨some 76, none, .idxA 3 1 (.t 11) (.t 58)⟩,
                                 ⟨none, none, .store 1 (.t 76) (.t 75)⟩])))
                             (.keep [1, 2, 3, 7, 8, 9, 10, 11, 21, 22, 55]
                              (.ops [⟨some 77, none, .bin .add (.t 55) (.k (.int .i64 1))⟩,
                                ⟨some 55, none, .mv (.t 77)⟩]))))))))))
                     (.keep [1, 2, 3, 11, 21, 22]
                      (.ops [⟨some 78, none, .fldA 1 (.t 3)⟩,
                        ⟨some 79, none, .load false 1 (.t 78)⟩,
                        ⟨some 80, none, .load true 3 (.t 11)⟩,
                        ⟨some 81, none, .bslice 13 3 1 [.int .i64 0, .int .i64 0, .int .i64 0] [(0, .t 80)]⟩,
                        ⟨some 82, none, .app 13 3 (.t 79) (.t 81)⟩,
                        ⟨some 83, none, .fldA 1 (.t 3)⟩,
                        ⟨none, none, .store 1 (.t 83) (.t 82)⟩]))))))))))
             (.keep [1, 2, 3, 21, 22]
              (.ops [⟨some 84, none, .bin .add (.t 22) (.k (.int .i64 1))⟩,
                ⟨some 22, none, .mv (.t 84)⟩]))))))))))
     (.keep [2, 3]
      (.seq
       (.ops [⟨some 85, none, .load true 2 (.t 3)⟩,
         ⟨none, none, .store 2 (.t 2) (.t 85)⟩])
       .ret)))))) }
structure N103 (R : Env) : Prop where
  o103 : R.Fn 103 c103
  n104 : N104 R
/-- umbra.texture.Half -/
def c91 : IFn := { np := 1, rs := [.cell 2 true 2, .t 3], body :=
 (.seq
  (.ops [⟨some 1, none, .box 12 (.t 0)⟩,
    ⟨some 2, none, .alloc 12 [.int .i64 0, .nils]⟩,
    ⟨some 3, none, .mv (.k (.int .i64 0))⟩])
  (.seq
   (.seq
    (.ops [⟨some 5, none, .load true 2 (.t 1)⟩,
      ⟨some 6, none, .call 84 [.t 5]⟩,
      ⟨some 4, none, .mv (.t 6)⟩])
    (.seq
     (.ops [⟨some 7, none, .mv (.t 4)⟩,
       ⟨some 8, none, .bin .neq (.t 7) (.k (.int .i64 0))⟩])
     (.cond (.t 8)
      (.seq
       (.ops [⟨some 9, none, .build [.int .i64 0, .nils] []⟩,
         ⟨some 10, none, .mv (.t 4)⟩,
         ⟨none, none, .store 2 (.t 2) (.t 9)⟩,
         ⟨some 3, none, .mv (.t 10)⟩])
       .ret)
      .skip)))
   (.keep [1, 2]
    (.seq
     (.seq
      (.ops [⟨some 11, none, .fldA 0 (.t 1)⟩,
        ⟨some 12, none, .load false 1 (.t 11)⟩,
        ⟨some 13, none, .bin .eql (.t 12) (.k (.int .i64 1))⟩])
      (.cond (.t 13)
       (.seq
        (.ops [⟨some 14, none, .build [.int .i64 0, .nils] []⟩,
          ⟨none, none, .store 2 (.t 2) (.t 14)⟩,
          ⟨some 3, none, .mv (.k (.int .i64 2))⟩])
        .ret)
       .skip))
     (.keep [1, 2]
      (.seq
       (.ops [⟨some 15, none, .load true 2 (.t 1)⟩,
         ⟨some 16, none, .call 103 [.t 15]⟩,
         ⟨none, none, .store 2 (.t 2) (.t 16)⟩,
         ⟨some 3, none, .mv (.k (.int .i64 0))⟩])
       .ret)))))) }
structure N91 (R : Env) : Prop where
  o91 : R.Fn 91 c91
  n84 : N84 R
  n103 : N103 R
/-- umbra.texture.levels$1 -/
def c107 : IFn := { np := 1, rs := [], body :=
 (.block 0
  (.loop
   (.seq
    (.seq
     (.ops [⟨some 3, none, .mv (.t 0)⟩,
       ⟨some 4, none, .load true 2 (.t 1)⟩,
       ⟨some 5, none, .callv (.t 3) [.t 4]⟩,
       ⟨some 6, none, .mv (.t 5)⟩,
       ⟨some 7, some (6, true), .fldA 0 (.t 1)⟩,
       ⟨some 8, some (6, true), .load false 1 (.t 7)⟩,
       ⟨some 9, some (6, true), .bin .gtr (.t 8) (.k (.int .i64 1))⟩,
       ⟨some 10, none, .pick (.t 6) (.t 9) (.k (.bool false))⟩])
     (.keep [0, 1, 10]
      (.cond (.t 10)
       .skip
       (.exit 0))))
    (.keep [0, 1]
     (.block 1
      (.ops [⟨some 11, none, .load true 2 (.t 1)⟩,
        ⟨some 12, none, .call 103 [.t 11]⟩,
        ⟨none, none, .store 2 (.t 1) (.t 12)⟩])))))) }
structure N107 (R : Env) : Prop where
  o107 : R.Fn 107 c107
  n103 : N103 R
/-- umbra.texture.levels -/
def c102 : IFn := { np := 1, rs := [.t 2], body :=
 (.seq
  (.ops [⟨some 1, none, .box 12 (.t 0)⟩,
    ⟨some 2, none, .mv (.k (.nilf))⟩])
  (.seq
   (.ops [⟨some 3, none, .mkf 107 [.t 1]⟩,
     ⟨some 2, none, .mv (.t 3)⟩])
   .ret)) }
structure N102 (R : Env) : Prop where
  o102 : R.Fn 102 c102
  n107 : N107 R
/-- umbra.texture.Levels (NOT WHOLE: ['code rangeFunc']) -/
def c88 : IFn := { np := 1, rs := [.t 2, .t 3], body :=
 (.seq
  (.ops [⟨some 1, none, .box 12 (.t 0)⟩,
    ⟨some 2, none, .mv (.k (.nils))⟩,
    ⟨some 3, none, .mv (.k (.int .i64 0))⟩])
  (.seq
   (.seq
    (.ops [⟨some 7, none, .load true 2 (.t 1)⟩,
      ⟨some 8, none, .call 84 [.t 7]⟩,
      ⟨some 4, none, .mv (.t 8)⟩])
    (.seq
     (.ops [⟨some 9, none, .mv (.t 4)⟩,
       ⟨some 10, none, .bin .neq (.t 9) (.k (.int .i64 0))⟩])
     (.cond (.t 10)
      (.seq
       (.ops [⟨some 11, none, .mv (.t 4)⟩,
         ⟨some 2, none, .mv (.k (.nils))⟩,
         ⟨some 3, none, .mv (.t 11)⟩])
       .ret)
      .skip)))
   (.keep [1]
    (.seq
     (.ops [⟨some 5, none, .alloc 14 [.nils]⟩])
     (.seq
      (.seq
       (.draw [0, 1, 0, 4, 12, 31, 63] [[1], [12], [1], [14], [15], [13, 16], [17]] [⟨some 12, none, .fldA 0 (.t 1)⟩,
         ⟨some 13, none, .load false 1 (.t 12)⟩,
         ⟨some 14, none, .fldA 1 (.t 1)⟩,
         ⟨some 15, none, .load false 1 (.t 14)⟩,
         ⟨some 16, none, .call 101 [.t 15]⟩,
         ⟨some 17, none, .build [.int .i64 0, .nils] [(0, 1, .t 13), (1, 1, .t 16)]⟩,
         ⟨some 18, none, .call 102 [.t 17]⟩])
       (.keep [5]
        (.block 0
         .skip)))
      (.keep [5]
       (.seq
        (.ops [⟨some 24, none, .load false 1 (.t 5)⟩,
          ⟨some 2, none, .mv (.t 24)⟩,
          ⟨some 3, none, .mv (.k (.int .i64 0))⟩])
        .ret))))))) }
structure N88 (R : Env) : Prop where
  o88 : R.Fn 88 c88
  n84 : N84 R
  n101 : N101 R
  n102 : N102 R
/-- umbra.texture.At -/
def c94 : IFn := { np := 3, rs := [.cell 6 true 3, .t 7], body :=
 (.seq
  (.ops [⟨some 3, none, .box 12 (.t 0)⟩,
    ⟨some 6, none, .alloc 13 [.int .i64 0, .int .i64 0, .int .i64 0]⟩,
    ⟨some 7, none, .mv (.k (.int .i64 0))⟩])
  (.seq
   (.seq
    (.ops [⟨some 9, none, .load true 2 (.t 3)⟩,
      ⟨some 10, none, .call 84 [.t 9]⟩,
      ⟨some 8, none, .mv (.t 10)⟩])
    (.seq
     (.ops [⟨some 11, none, .mv (.t 8)⟩,
       ⟨some 12, none, .bin .neq (.t 11) (.k (.int .i64 0))⟩])
     (.cond (.t 12)
      (.seq
       (.ops [⟨some 13, none, .build [.int .i64 0, .int .i64 0, .int .i64 0] []⟩,
         ⟨some 14, none, .mv (.t 8)⟩,
         ⟨none, none, .store 3 (.t 6) (.t 13)⟩,
         ⟨some 7, none, .mv (.t 14)⟩])
       .ret)
      .skip)))
   (.keep [1, 2, 3, 6]
    (.seq
     (.ops [⟨some 15, none, .load true 2 (.t 3)⟩,
       ⟨some 16, none, .mv (.t 1)⟩,
       ⟨some 17, none, .mv (.t 2)⟩,
       ⟨some 18, none, .call 104 [.t 15, .t 16, .t 17]⟩,
       ⟨none, none, .store 3 (.t 6) (.t 18)⟩,
       ⟨some 7, none, .mv (.k (.int .i64 0))⟩])
     (.keep [6, 7]
      .ret))))) }
structure N94 (R : Env) : Prop where
  o94 : R.Fn 94 c94
  n84 : N84 R
  n104 : N104 R
/-- umbra.texture.Decode -/
def c97 : IFn := { np := 1, rs := [.cell 2 true 2, .t 3], body :=
 (.seq
  (.ops [⟨some 2, none, .alloc 12 [.int .i64 0, .nils]⟩,
    ⟨some 3, none, .mv (.k (.int .i64 0))⟩])
  (.seq
   (.ops [⟨some 9, none, .mv (.t 0)⟩,
     ⟨some 10, none, .call 56 [.t 9]⟩,
     ⟨some 4, none, .mv (.t 10)⟩])
   (.seq
    (.ops [⟨some 11, none, .mv (.t 4)⟩,
      ⟨some 12, none, .call 57 [.t 11, .k (.int .i64 1)]⟩,
      ⟨some 13, none, .conv .i64 (.t 12)⟩,
      ⟨some 14, none, .build [.int .i64 0, .nils] [(0, 1, .t 13)]⟩,
      ⟨some 5, none, .alloc 12 [.int .i64 0, .nils]⟩,
      ⟨none, none, .store 2 (.t 5) (.t 14)⟩])
    (.keep [2, 4, 5]
     (.seq
      (.seq
       (.ops [⟨some 15, none, .fldA 0 (.t 5)⟩,
         ⟨some 16, none, .load false 1 (.t 15)⟩,
         ⟨some 17, none, .fldA 0 (.t 5)⟩,
         ⟨some 18, none, .load false 1 (.t 17)⟩,
         ⟨some 19, none, .bin .mul (.t 16) (.t 18)⟩,
         ⟨some 20, none, .mv (.k (.int .i64 0))⟩])
       (.keep [2, 4, 5, 19, 20]
        (.block 0
         (.loop
          (.seq
           (.ops [⟨some 21, none, .bin .lss (.t 20) (.t 19)⟩])
           (.seq
            (.cond (.t 21)
             .skip
             (.exit 0))
            (.keep [2, 4, 5, 19, 20]
             (.seq
              (.block 1
               (.seq
                (.ops [⟨some 22, none, .mv (.t 4)⟩,
                  ⟨some 23, none, .call 59 [.t 22, .k (.int .i64 3)]⟩,
                  ⟨some 6, none, .mv (.t 23)⟩])
                (.seq
                 (.seq
                  (.ops [⟨some 24, none, .mv (.t 6)⟩,
                    ⟨some 25, none, .lenS (.t 24)⟩,
                    ⟨some 26, none, .bin .lss (.t 25) (.k (.int .i64 3))⟩])
                  (.cond (.t 26)
                   (.exit 0)
                   .skip))
                 (.keep [2, 4, 5, 6, 19, 20]
                  (.draw [0, 1, 0, 4, 12, 28, 0, 64, 192, 448, 0, 1024, 3072, 7168, 16380, 32764, 65535, 131071, 262143] [[5], [27], [6], [29], [30], [31], [6], [33], [34], [35], [6], [37], [38], [39], [32, 36, 40], [41], [28, 42], [5], [44, 43]] [⟨some 27, none, .fldA 1 (.t 5)⟩,
                    ⟨some 28, none, .load false 1 (.t 27)⟩,
                    ⟨some 29, none, .mv (.t 6)⟩,
                    ⟨some 30, none, .idxS 1 (.t 29) (.k (.int .i64 0))⟩,
                    ⟨some 31, none, .load false 1 (.t 30)⟩,
                    ⟨some 32, none, .conv .i64 (.t 31)⟩,
                    ⟨some 33, none, .mv (.t 6)⟩,
                    ⟨some 34, none, .idxS 1 (.t 33) (.k (.int .i64 1))⟩,
                    ⟨some 35, none, .load false 1 (.t 34)⟩,
                    ⟨some 36, none, .conv .i64 (.t 35)⟩,
                    ⟨some 37, none, .mv (.t 6)⟩,
                    ⟨some 38, none, .idxS 1 (.t 37) (.k (.int .i64 2))⟩,
                    ⟨some 39, none, .load false 1 (.t 38)⟩,
                    ⟨some 40, none, .conv .i64 (.t 39)⟩,
                    ⟨some 41, none, .build [.int .i64 0, .int .i64 0, .int .i64 0] [(0, 1, .t 32), (1, 1, .t 36), (2, 1, .t 40)]⟩,
                    ⟨some 42, none, .bslice 13 3 1 [.int .i64 0, .int .i64 0, .int .i64 0] [(0, .t 41)]⟩,
                    ⟨some 43, none, .app 13 3 (.t 28) (.t 42)⟩,
                    ⟨some 44, none, .fldA 1 (.t 5)⟩,
                    ⟨none, none, .store 1 (.t 44) (.t 43)⟩])))))
              (.keep [2, 4, 5, 19, 20]
               (.ops [⟨some 45, none, .bin .add (.t 20) (.k (.int .i64 1))⟩,
                 ⟨some 20, none, .mv (.t 45)⟩]))))))))))
      (.keep [2, 4, 5]
       (.seq
        (.seq
         (.ops [⟨some 46, none, .mv (.t 4)⟩,
           ⟨some 47, none, .call 60 [.t 46]⟩,
           ⟨some 7, none, .mv (.t 47)⟩])
         (.seq
          (.ops [⟨some 48, none, .mv (.t 7)⟩,
            ⟨some 49, none, .bin .neq (.t 48) (.k (.int .i64 0))⟩])
          (.cond (.t 49)
           (.seq
            (.ops [⟨some 50, none, .build [.int .i64 0, .nils] []⟩,
              ⟨some 51, none, .mv (.t 7)⟩,
              ⟨none, none, .store 2 (.t 2) (.t 50)⟩,
              ⟨some 3, none, .mv (.t 51)⟩])
            .ret)
           .skip)))
        (.keep [2, 5]
         (.seq
          (.seq
           (.ops [⟨some 52, none, .load true 2 (.t 5)⟩,
             ⟨some 53, none, .call 84 [.t 52]⟩,
             ⟨some 8, none, .mv (.t 53)⟩])
           (.seq
            (.ops [⟨some 54, none, .mv (.t 8)⟩,
              ⟨some 55, none, .bin .neq (.t 54) (.k (.int .i64 0))⟩])
            (.cond (.t 55)
             (.seq
              (.ops [⟨some 56, none, .build [.int .i64 0, .nils] []⟩,
                ⟨some 57, none, .mv (.t 8)⟩,
                ⟨none, none, .store 2 (.t 2) (.t 56)⟩,
                ⟨some 3, none, .mv (.t 57)⟩])
              .ret)
             .skip)))
          (.keep [2, 5]
           (.seq
            (.ops [⟨some 58, none, .load true 2 (.t 5)⟩,
              ⟨none, none, .store 2 (.t 2) (.t 58)⟩,
              ⟨some 3, none, .mv (.k (.int .i64 0))⟩])
            .ret))))))))))) }
structure N97 (R : Env) : Prop where
  o97 : R.Fn 97 c97
  n56 : N56 R
  n57 : N57 R
  n59 : N59 R
  n60 : N60 R
  n84 : N84 R
end Go.UM

/- The resolved code of package umbraref11, function by function; numbers are those of the register, the same for all programs. -/

namespace Go.UM
open Go.AM
/-- umbra.umbraref11.most -/
def c63 : IFn := { np := 1, rs := [.t 2], body :=
 (.seq
  (.ops [⟨some 2, none, .mv (.k (.int .u64 0))⟩])
  (.seq
   (.ops [⟨some 3, none, .mv (.k (.int .u64 0))⟩])
   (.seq
    (.seq
     (.ops [⟨some 4, none, .mv (.k (.int .i64 0))⟩])
     (.keep [0, 3, 4]
      (.block 0
       (.loop
        (.seq
         (.seq
          (.ops [⟨some 5, none, .mv (.t 4)⟩,
            ⟨some 6, none, .mv (.t 0)⟩,
            ⟨some 7, none, .bin .lss (.t 5) (.t 6)⟩])
          (.cond (.t 7)
           .skip
           (.exit 0)))
         (.keep [0, 3, 4]
          (.seq
           (.block 1
            (.ops [⟨some 10, none, .mv (.t 3)⟩,
              ⟨some 11, none, .bin .mul (.t 10) (.k (.int .u64 256))⟩,
              ⟨some 12, none, .bin .add (.t 11) (.k (.int .u64 255))⟩,
              ⟨some 3, none, .mv (.t 12)⟩]))
           (.keep [0, 3, 4]
            (.ops [⟨some 8, none, .mv (.t 4)⟩,
              ⟨some 9, none, .bin .add (.t 8) (.k (.int .i64 1))⟩,
              ⟨some 4, none, .mv (.t 9)⟩])))))))))
    (.keep [3]
     (.seq
      (.ops [⟨some 13, none, .mv (.t 3)⟩,
        ⟨some 2, none, .mv (.t 13)⟩])
      .ret))))) }
structure N63 (R : Env) : Prop where
  o63 : R.Fn 63 c63
/-- umbra.umbraref11.Put -/
def c55 : IFn := { np := 3, rs := [.t 6, .t 7], body :=
 (.seq
  (.ops [⟨some 6, none, .mv (.k (.nils))⟩,
    ⟨some 7, none, .mv (.k (.int .i64 0))⟩])
  (.seq
   (.seq
    (.ops [⟨some 12, none, .mv (.t 1)⟩,
      ⟨some 13, none, .bin .lss (.t 12) (.k (.int .i64 1))⟩,
      ⟨some 14, none, .mv (.t 13)⟩,
      ⟨some 15, some (14, false), .mv (.t 1)⟩,
      ⟨some 16, some (14, false), .bin .gtr (.t 15) (.k (.int .i64 8))⟩,
      ⟨some 17, none, .pick (.t 14) (.k (.bool true)) (.t 16)⟩])
    (.keep [0, 1, 2, 17]
     (.cond (.t 17)
      (.seq
       (.ops [⟨some 6, none, .mv (.k (.nils))⟩,
         ⟨some 7, none, .mv (.k (.int .i64 2))⟩])
       .ret)
      .skip)))
   (.keep [0, 1, 2]
    (.seq
     (.ops [⟨some 18, none, .bslice 4 1 0 [.int .u8 0] []⟩,
       ⟨some 19, none, .mv (.t 0)⟩,
       ⟨some 20, none, .app 4 1 (.t 18) (.t 19)⟩,
       ⟨some 8, none, .mv (.t 20)⟩])
     (.seq
      (.seq
       (.ops [⟨some 9, none, .mv (.k (.int .i64 0))⟩])
       (.keep [1, 2, 8, 9]
        (.block 0
         (.loop
          (.seq
           (.seq
            (.ops [⟨some 21, none, .mv (.t 9)⟩,
              ⟨some 22, none, .mv (.t 2)⟩,
              ⟨some 23, none, .lenS (.t 22)⟩,
              ⟨some 24, none, .bin .lss (.t 21) (.t 23)⟩])
            (.cond (.t 24)
             .skip
             (.exit 0)))
           (.keep [1, 2, 8, 9]
            (.seq
             (.block 1
              (.seq
               (.seq
                (.draw [0, 0, 3, 7, 0, 16, 63] [[2], [9], [27, 28], [29], [1], [31], [30, 32]] [⟨some 27, none, .mv (.t 2)⟩,
                  ⟨some 28, none, .mv (.t 9)⟩,
                  ⟨some 29, none, .idxS 1 (.t 27) (.t 28)⟩,
                  ⟨some 30, none, .load false 1 (.t 29)⟩,
                  ⟨some 31, none, .mv (.t 1)⟩,
                  ⟨some 32, none, .call 63 [.t 31]⟩,
                  ⟨some 33, none, .bin .gtr (.t 30) (.t 32)⟩])
                (.keep [1, 2, 8, 9, 33]
                 (.cond (.t 33)
                  (.seq
                   (.ops [⟨some 6, none, .mv (.k (.nils))⟩,
                     ⟨some 7, none, .mv (.k (.int .i64 3))⟩])
                   .ret)
                  .skip)))
               (.keep [1, 2, 8, 9]
                (.seq
                 (.ops [⟨some 34, none, .mv (.t 2)⟩,
                   ⟨some 35, none, .mv (.t 9)⟩,
                   ⟨some 36, none, .idxS 1 (.t 34) (.t 35)⟩,
                   ⟨some 37, none, .load false 1 (.t 36)⟩,
                   ⟨some 10, none, .mv (.t 37)⟩])
                 (.keep [1, 2, 8, 9, 10]
                  (.seq
                   (.ops [⟨some 11, none, .mv (.k (.int .i64 0))⟩])
                   (.keep [1, 2, 8, 9, 10, 11]
                    (.block 2
                     (.loop
                      (.seq
                       (.seq
                        (.ops [⟨some 38, none, .mv (.t 11)⟩,
                          ⟨some 39, none, .mv (.t 1)⟩,
                          ⟨some 40, none, .bin .lss (.t 38) (.t 39)⟩])
                        (.cond (.t 40)
                         .skip
                         (.exit 2)))
                       (.keep [1, 2, 8, 9, 10, 11]
                        (.seq
                         (.block 3
                          (.seq
                           (.ops [⟨some 43, none, .mv (.t 8)⟩,
                             ⟨some 44, none, .mv (.t 10)⟩,
                             ⟨some 45, none, .bin .rem (.t 44) (.k (.int .u64 256))⟩,
                             ⟨some 46, none, .conv .u8 (.t 45)⟩,
                             ⟨some 47, none, .bslice 4 1 1 [.int .u8 0] [(0, .t 46)]⟩,
                             ⟨some 48, none, .app 4 1 (.t 43) (.t 47)⟩,
                             ⟨some 8, none, .mv (.t 48)⟩])
                           (.keep [1, 2, 8, 9, 10, 11]
                            (.ops [⟨some 49, none, .mv (.t 10)⟩,
                              ⟨some 50, none, .bin .quo (.t 49) (.k (.int .u64 256))⟩,
                              ⟨some 10, none, .mv (.t 50)⟩]))))
                         (.keep [1, 2, 8, 9, 10, 11]
                          (.ops [⟨some 41, none, .mv (.t 11)⟩,
                            ⟨some 42, none, .bin .add (.t 41) (.k (.int .i64 1))⟩,
                            ⟨some 11, none, .mv (.t 42)⟩]))))))))))))))
             (.keep [1, 2, 8, 9]
              (.ops [⟨some 25, none, .mv (.t 9)⟩,
                ⟨some 26, none, .bin .add (.t 25) (.k (.int .i64 1))⟩,
                ⟨some 9, none, .mv (.t 26)⟩])))))))))
      (.keep [8]
       (.seq
        (.ops [⟨some 51, none, .mv (.t 8)⟩,
          ⟨some 6, none, .mv (.t 51)⟩,
          ⟨some 7, none, .mv (.k (.int .i64 0))⟩])
        .ret))))))) }
structure N55 (R : Env) : Prop where
  o55 : R.Fn 55 c55
  n63 : N63 R
/-- (*umbra.umbraref11.Reader).Take -/
def c66 : IFn := { np := 2, rs := [.t 4], body :=
 (.seq
  (.ops [⟨some 4, none, .mv (.k (.nils))⟩])
  (.seq
   (.seq
    (.ops [⟨some 5, none, .mv (.t 0)⟩,
      ⟨some 6, none, .nilck (.t 5)⟩,
      ⟨some 7, none, .fldA 2 (.t 6)⟩,
      ⟨some 8, none, .load false 1 (.t 7)⟩,
      ⟨some 9, none, .bin .eql (.t 8) (.k (.int .i64 0))⟩,
      ⟨some 10, none, .mv (.t 9)⟩,
      ⟨some 11, some (10, true), .mv (.t 1)⟩,
      ⟨some 12, some (10, true), .bin .lss (.t 11) (.k (.int .i64 0))⟩,
      ⟨some 13, none, .pick (.t 10) (.t 12) (.k (.bool false))⟩])
    (.keep [0, 1, 13]
     (.cond (.t 13)
      (.ops [⟨some 14, none, .mv (.t 0)⟩,
        ⟨some 15, none, .nilck (.t 14)⟩,
        ⟨some 16, none, .fldA 2 (.t 15)⟩,
        ⟨none, none, .store 1 (.t 16) (.k (.int .i64 2))⟩])
      .skip)))
   (.keep [0, 1]
    (.seq
     (.seq
      (.draw [0, 1, 3, 7, 15, 31, 63, 63, 191, 447, 959, 1983, 63, 4159, 12351, 28735, 65471, 131071, 262143] [[0], [17], [18], [19], [20], [21], [1], [0], [24], [25], [26], [27], [0], [29], [30], [31], [28, 32], [23, 33], [22, 34]] [⟨some 17, none, .mv (.t 0)⟩,
        ⟨some 18, none, .nilck (.t 17)⟩,
        ⟨some 19, none, .fldA 2 (.t 18)⟩,
        ⟨some 20, none, .load false 1 (.t 19)⟩,
        ⟨some 21, none, .bin .eql (.t 20) (.k (.int .i64 0))⟩,
        ⟨some 22, none, .mv (.t 21)⟩,
        ⟨some 23, some (22, true), .mv (.t 1)⟩,
        ⟨some 24, some (22, true), .mv (.t 0)⟩,
        ⟨some 25, some (22, true), .nilck (.t 24)⟩,
        ⟨some 26, some (22, true), .fldA 0 (.t 25)⟩,
        ⟨some 27, some (22, true), .load false 1 (.t 26)⟩,
        ⟨some 28, some (22, true), .lenS (.t 27)⟩,
        ⟨some 29, some (22, true), .mv (.t 0)⟩,
        ⟨some 30, some (22, true), .nilck (.t 29)⟩,
        ⟨some 31, some (22, true), .fldA 1 (.t 30)⟩,
        ⟨some 32, some (22, true), .load false 1 (.t 31)⟩,
        ⟨some 33, some (22, true), .bin .sub (.t 28) (.t 32)⟩,
        ⟨some 34, some (22, true), .bin .gtr (.t 23) (.t 33)⟩,
        ⟨some 35, none, .pick (.t 22) (.t 34) (.k (.bool false))⟩])
      (.keep [0, 1, 35]
       (.cond (.t 35)
        (.ops [⟨some 36, none, .mv (.t 0)⟩,
          ⟨some 37, none, .nilck (.t 36)⟩,
          ⟨some 38, none, .fldA 2 (.t 37)⟩,
          ⟨none, none, .store 1 (.t 38) (.k (.int .i64 4))⟩])
        .skip)))
     (.keep [0, 1]
      (.seq
       (.seq
        (.ops [⟨some 39, none, .mv (.t 0)⟩,
          ⟨some 40, none, .nilck (.t 39)⟩,
          ⟨some 41, none, .fldA 2 (.t 40)⟩,
          ⟨some 42, none, .load false 1 (.t 41)⟩,
          ⟨some 43, none, .bin .neq (.t 42) (.k (.int .i64 0))⟩])
        (.keep [0, 1, 43]
         (.cond (.t 43)
          (.seq
           (.ops [⟨some 4, none, .mv (.k (.nils))⟩])
           .ret)
          .skip)))
       (.keep [0, 1]
        (.seq
         (.ops [⟨some 44, none, .mv (.t 0)⟩,
           ⟨some 45, none, .mv (.t 0)⟩,
           ⟨some 46, none, .nilck (.t 45)⟩,
           ⟨some 47, none, .fldA 1 (.t 46)⟩,
           ⟨some 48, none, .load false 1 (.t 47)⟩,
           ⟨some 49, none, .mv (.t 1)⟩,
           ⟨some 50, none, .bin .add (.t 48) (.t 49)⟩,
           ⟨some 51, none, .nilck (.t 44)⟩,
           ⟨some 52, none, .fldA 1 (.t 51)⟩,
           ⟨none, none, .store 1 (.t 52) (.t 50)⟩])
         (.keep [0, 1]
          (.seq
           (.draw [0, 1, 3, 7, 0, 16, 48, 112, 0, 496, 0, 1024, 3072, 7168, 16383, 32767] [[0], [53], [54], [55], [0], [57], [58], [59], [1], [60, 61], [0], [63], [64], [65], [56, 62, 66], [67]] [⟨some 53, none, .mv (.t 0)⟩,
             ⟨some 54, none, .nilck (.t 53)⟩,
             ⟨some 55, none, .fldA 0 (.t 54)⟩,
             ⟨some 56, none, .load false 1 (.t 55)⟩,
             ⟨some 57, none, .mv (.t 0)⟩,
             ⟨some 58, none, .nilck (.t 57)⟩,
             ⟨some 59, none, .fldA 1 (.t 58)⟩,
             ⟨some 60, none, .load false 1 (.t 59)⟩,
             ⟨some 61, none, .mv (.t 1)⟩,
             ⟨some 62, none, .bin .sub (.t 60) (.t 61)⟩,
             ⟨some 63, none, .mv (.t 0)⟩,
             ⟨some 64, none, .nilck (.t 63)⟩,
             ⟨some 65, none, .fldA 1 (.t 64)⟩,
             ⟨some 66, none, .load false 1 (.t 65)⟩,
             ⟨some 67, none, .slcS 4 1 (.t 56) (some (.t 62)) (some (.t 66)) none⟩,
             ⟨some 4, none, .mv (.t 67)⟩])
           (.keep [4]
            .ret))))))))))) }
structure N66 (R : Env) : Prop where
  o66 : R.Fn 66 c66
/-- (*umbra.umbraref11.Reader).Num -/
def c61 : IFn := { np := 2, rs := [.t 4], body :=
 (.seq
  (.ops [⟨some 4, none, .mv (.k (.int .u64 0))⟩])
  (.seq
   (.seq
    (.ops [⟨some 8, none, .mv (.t 0)⟩,
      ⟨some 9, none, .nilck (.t 8)⟩,
      ⟨some 10, none, .fldA 2 (.t 9)⟩,
      ⟨some 11, none, .load false 1 (.t 10)⟩,
      ⟨some 12, none, .bin .eql (.t 11) (.k (.int .i64 0))⟩,
      ⟨some 13, none, .mv (.t 12)⟩,
      ⟨some 14, some (13, true), .mv (.t 1)⟩,
      ⟨some 15, some (13, true), .bin .lss (.t 14) (.k (.int .i64 1))⟩,
      ⟨some 16, some (13, true), .mv (.t 15)⟩,
      ⟨some 17, some (16, false), .mv (.t 1)⟩,
      ⟨some 18, some (16, false), .bin .gtr (.t 17) (.k (.int .i64 8))⟩,
      ⟨some 19, some (13, true), .pick (.t 16) (.k (.bool true)) (.t 18)⟩,
      ⟨some 20, none, .pick (.t 13) (.t 19) (.k (.bool false))⟩])
    (.keep [0, 1, 20]
     (.cond (.t 20)
      (.ops [⟨some 21, none, .mv (.t 0)⟩,
        ⟨some 22, none, .nilck (.t 21)⟩,
        ⟨some 23, none, .fldA 2 (.t 22)⟩,
        ⟨none, none, .store 1 (.t 23) (.k (.int .i64 2))⟩])
      .skip)))
   (.keep [0, 1]
    (.seq
     (.ops [⟨some 24, none, .mv (.t 0)⟩,
       ⟨some 25, none, .mv (.t 1)⟩,
       ⟨some 26, none, .mm true [.t 25, .k (.int .i64 0)]⟩,
       ⟨some 27, none, .call 66 [.t 24, .t 26]⟩,
       ⟨some 5, none, .mv (.t 27)⟩])
     (.keep [5]
      (.seq
       (.ops [⟨some 6, none, .mv (.k (.int .u64 0))⟩])
       (.seq
        (.seq
         (.ops [⟨some 28, none, .mv (.t 5)⟩,
           ⟨some 29, none, .lenS (.t 28)⟩,
           ⟨some 30, none, .bin .sub (.t 29) (.k (.int .i64 1))⟩,
           ⟨some 7, none, .mv (.t 30)⟩])
         (.keep [5, 6, 7]
          (.block 0
           (.loop
            (.seq
             (.seq
              (.ops [⟨some 31, none, .mv (.t 7)⟩,
                ⟨some 32, none, .bin .geq (.t 31) (.k (.int .i64 0))⟩])
              (.cond (.t 32)
               .skip
               (.exit 0)))
             (.keep [5, 6, 7]
              (.seq
               (.block 1
                (.ops [⟨some 35, none, .mv (.t 6)⟩,
                  ⟨some 36, none, .bin .mul (.t 35) (.k (.int .u64 256))⟩,
                  ⟨some 37, none, .mv (.t 5)⟩,
                  ⟨some 38, none, .mv (.t 7)⟩,
                  ⟨some 39, none, .idxS 1 (.t 37) (.t 38)⟩,
                  ⟨some 40, none, .load false 1 (.t 39)⟩,
                  ⟨some 41, none, .conv .u64 (.t 40)⟩,
                  ⟨some 42, none, .bin .add (.t 36) (.t 41)⟩,
                  ⟨some 6, none, .mv (.t 42)⟩]))
               (.keep [5, 6, 7]
                (.ops [⟨some 33, none, .mv (.t 7)⟩,
                  ⟨some 34, none, .bin .sub (.t 33) (.k (.int .i64 1))⟩,
                  ⟨some 7, none, .mv (.t 34)⟩])))))))))
        (.keep [6]
         (.seq
          (.ops [⟨some 43, none, .mv (.t 6)⟩,
            ⟨some 4, none, .mv (.t 43)⟩])
          .ret))))))))) }
structure N61 (R : Env) : Prop where
  o61 : R.Fn 61 c61
  n66 : N66 R
/-- (*umbra.umbraref11.Reader).End -/
def c69 : IFn := { np := 1, rs := [.t 2], body :=
 (.seq
  (.ops [⟨some 2, none, .mv (.k (.int .i64 0))⟩])
  (.seq
   (.seq
    (.draw [0, 1, 3, 7, 15, 31, 63, 127, 255, 511, 63, 1087, 3135, 7231, 15423, 32767, 65535] [[0], [3], [4], [5], [6], [7], [0], [9], [10], [11], [0], [13], [14], [15], [16], [12, 17], [8, 18]] [⟨some 3, none, .mv (.t 0)⟩,
      ⟨some 4, none, .nilck (.t 3)⟩,
      ⟨some 5, none, .fldA 2 (.t 4)⟩,
      ⟨some 6, none, .load false 1 (.t 5)⟩,
      ⟨some 7, none, .bin .eql (.t 6) (.k (.int .i64 0))⟩,
      ⟨some 8, none, .mv (.t 7)⟩,
      ⟨some 9, some (8, true), .mv (.t 0)⟩,
      ⟨some 10, some (8, true), .nilck (.t 9)⟩,
      ⟨some 11, some (8, true), .fldA 1 (.t 10)⟩,
      ⟨some 12, some (8, true), .load false 1 (.t 11)⟩,
      ⟨some 13, some (8, true), .mv (.t 0)⟩,
      ⟨some 14, some (8, true), .nilck (.t 13)⟩,
      ⟨some 15, some (8, true), .fldA 0 (.t 14)⟩,
      ⟨some 16, some (8, true), .load false 1 (.t 15)⟩,
      ⟨some 17, some (8, true), .lenS (.t 16)⟩,
      ⟨some 18, some (8, true), .bin .lss (.t 12) (.t 17)⟩,
      ⟨some 19, none, .pick (.t 8) (.t 18) (.k (.bool false))⟩])
    (.keep [0, 19]
     (.cond (.t 19)
      (.seq
       (.ops [⟨some 2, none, .mv (.k (.int .i64 5))⟩])
       .ret)
      .skip)))
   (.keep [0]
    (.seq
     (.ops [⟨some 20, none, .mv (.t 0)⟩,
       ⟨some 21, none, .nilck (.t 20)⟩,
       ⟨some 22, none, .fldA 2 (.t 21)⟩,
       ⟨some 23, none, .load false 1 (.t 22)⟩,
       ⟨some 2, none, .mv (.t 23)⟩])
     (.keep [2]
      .ret))))) }
structure N69 (R : Env) : Prop where
  o69 : R.Fn 69 c69
/-- umbra.umbraref11.Signed -/
def c72 : IFn := { np := 3, rs := [.t 6, .t 7], body :=
 (.seq
  (.ops [⟨some 6, none, .mv (.k (.nils))⟩,
    ⟨some 7, none, .mv (.k (.int .i64 0))⟩])
  (.seq
   (.seq
    (.ops [⟨some 12, none, .mv (.t 1)⟩,
      ⟨some 13, none, .bin .lss (.t 12) (.k (.int .i64 1))⟩,
      ⟨some 14, none, .mv (.t 13)⟩,
      ⟨some 15, some (14, false), .mv (.t 1)⟩,
      ⟨some 16, some (14, false), .bin .gtr (.t 15) (.k (.int .i64 8))⟩,
      ⟨some 17, none, .pick (.t 14) (.k (.bool true)) (.t 16)⟩])
    (.keep [0, 1, 2, 17]
     (.cond (.t 17)
      (.seq
       (.ops [⟨some 6, none, .mv (.k (.nils))⟩,
         ⟨some 7, none, .mv (.k (.int .i64 2))⟩])
       .ret)
      .skip)))
   (.keep [0, 1, 2]
    (.seq
     (.ops [⟨some 18, none, .mv (.t 1)⟩,
       ⟨some 19, none, .call 63 [.t 18]⟩,
       ⟨some 20, none, .bin .quo (.t 19) (.k (.int .u64 2))⟩,
       ⟨some 21, none, .conv .i64 (.t 20)⟩,
       ⟨some 8, none, .mv (.t 21)⟩])
     (.keep [0, 1, 2, 8]
      (.seq
       (.ops [⟨some 9, none, .mv (.k (.nils))⟩])
       (.seq
        (.seq
         (.ops [⟨some 10, none, .mv (.k (.int .i64 0))⟩])
         (.keep [0, 1, 2, 8, 9, 10]
          (.block 0
           (.loop
            (.seq
             (.seq
              (.ops [⟨some 22, none, .mv (.t 10)⟩,
                ⟨some 23, none, .mv (.t 2)⟩,
                ⟨some 24, none, .lenS (.t 23)⟩,
                ⟨some 25, none, .bin .lss (.t 22) (.t 24)⟩])
              (.cond (.t 25)
               .skip
               (.exit 0)))
             (.keep [0, 1, 2, 8, 9, 10]
              (.seq
               (.block 1
                (.seq
                 (.seq
                  (.ops [⟨some 28, none, .mv (.t 2)⟩,
                    ⟨some 29, none, .mv (.t 10)⟩,
                    ⟨some 30, none, .idxS 1 (.t 28) (.t 29)⟩,
                    ⟨some 31, none, .load false 1 (.t 30)⟩,
                    ⟨some 32, none, .mv (.t 8)⟩,
                    ⟨some 33, none, .bin .gtr (.t 31) (.t 32)⟩,
                    ⟨some 34, none, .mv (.t 33)⟩,
                    ⟨some 35, some (34, false), .mv (.t 2)⟩,
                    ⟨some 36, some (34, false), .mv (.t 10)⟩,
                    ⟨some 37, some (34, false), .idxS 1 (.t 35) (.t 36)⟩,
                    ⟨some 38, some (34, false), .load false 1 (.t 37)⟩,
                    ⟨some 39, some (34, false), .mv (.t 8)⟩,
                    ⟨some 40, some (34, false), .un .neg (.t 39)⟩,
                    ⟨some 41, some (34, false), .bin .sub (.t 40) (.k (.int .i64 1))⟩,
                    ⟨some 42, some (34, false), .bin .lss (.t 38) (.t 41)⟩,
                    ⟨some 43, none, .pick (.t 34) (.k (.bool true)) (.t 42)⟩])
                  (.keep [0, 1, 2, 8, 9, 10, 43]
                   (.cond (.t 43)
                    (.seq
                     (.ops [⟨some 6, none, .mv (.k (.nils))⟩,
                       ⟨some 7, none, .mv (.k (.int .i64 3))⟩])
                     .ret)
                    .skip)))
                 (.keep [0, 1, 2, 8, 9, 10]
                  (.seq
                   (.ops [⟨some 44, none, .mv (.t 2)⟩,
                     ⟨some 45, none, .mv (.t 10)⟩,
                     ⟨some 46, none, .idxS 1 (.t 44) (.t 45)⟩,
                     ⟨some 47, none, .load false 1 (.t 46)⟩,
                     ⟨some 48, none, .conv .u64 (.t 47)⟩,
                     ⟨some 11, none, .mv (.t 48)⟩])
                   (.keep [0, 1, 2, 8, 9, 10, 11]
                    (.seq
                     (.seq
                      (.ops [⟨some 49, none, .mv (.t 2)⟩,
                        ⟨some 50, none, .mv (.t 10)⟩,
                        ⟨some 51, none, .idxS 1 (.t 49) (.t 50)⟩,
                        ⟨some 52, none, .load false 1 (.t 51)⟩,
                        ⟨some 53, none, .bin .lss (.t 52) (.k (.int .i64 0))⟩])
                      (.keep [0, 1, 2, 8, 9, 10, 11, 53]
                       (.cond (.t 53)
                        (.draw [0, 1, 0, 0, 12, 28, 60, 124, 252, 511, 1023] [[1], [54], [2], [10], [56, 57], [58], [59], [60], [61], [55, 62], [63]] [⟨some 54, none, .mv (.t 1)⟩,
                          ⟨some 55, none, .call 63 [.t 54]⟩,
                          ⟨some 56, none, .mv (.t 2)⟩,
                          ⟨some 57, none, .mv (.t 10)⟩,
                          ⟨some 58, none, .idxS 1 (.t 56) (.t 57)⟩,
                          ⟨some 59, none, .load false 1 (.t 58)⟩,
                          ⟨some 60, none, .bin .add (.t 59) (.k (.int .i64 1))⟩,
                          ⟨some 61, none, .un .neg (.t 60)⟩,
                          ⟨some 62, none, .conv .u64 (.t 61)⟩,
                          ⟨some 63, none, .bin .sub (.t 55) (.t 62)⟩,
                          ⟨some 11, none, .mv (.t 63)⟩])
                        .skip)))
                     (.keep [0, 1, 2, 8, 9, 10, 11]
                      (.ops [⟨some 64, none, .mv (.t 9)⟩,
                        ⟨some 65, none, .mv (.t 11)⟩,
                        ⟨some 66, none, .bslice 6 1 1 [.int .u64 0] [(0, .t 65)]⟩,
                        ⟨some 67, none, .app 6 1 (.t 64) (.t 66)⟩,
                        ⟨some 9, none, .mv (.t 67)⟩]))))))))
               (.keep [0, 1, 2, 8, 9, 10]
                (.ops [⟨some 26, none, .mv (.t 10)⟩,
                  ⟨some 27, none, .bin .add (.t 26) (.k (.int .i64 1))⟩,
                  ⟨some 10, none, .mv (.t 27)⟩])))))))))
        (.keep [0, 1, 9]
         (.seq
          (.ops [⟨some 68, none, .mv (.t 0)⟩,
            ⟨some 69, none, .mv (.t 1)⟩,
            ⟨some 70, none, .mv (.t 9)⟩,
            ⟨some 71, none, .call 55 [.t 68, .t 69, .t 70]⟩,
            ⟨some 72, none, .ext (.t 71) 0⟩,
            ⟨some 73, none, .ext (.t 71) 1⟩,
            ⟨some 6, none, .mv (.t 72)⟩,
            ⟨some 7, none, .mv (.t 73)⟩])
          (.keep [6, 7]
           .ret)))))))))) }
structure N72 (R : Env) : Prop where
  o72 : R.Fn 72 c72
  n55 : N55 R
  n63 : N63 R
/-- (*umbra.umbraref11.Reader).Int -/
def c77 : IFn := { np := 2, rs := [.t 4], body :=
 (.seq
  (.ops [⟨some 4, none, .mv (.k (.int .i64 0))⟩])
  (.seq
   (.ops [⟨some 6, none, .mv (.t 0)⟩,
     ⟨some 7, none, .mv (.t 1)⟩,
     ⟨some 8, none, .call 61 [.t 6, .t 7]⟩,
     ⟨some 5, none, .mv (.t 8)⟩])
   (.seq
    (.seq
     (.ops [⟨some 9, none, .mv (.t 0)⟩,
       ⟨some 10, none, .nilck (.t 9)⟩,
       ⟨some 11, none, .fldA 2 (.t 10)⟩,
       ⟨some 12, none, .load false 1 (.t 11)⟩,
       ⟨some 13, none, .bin .neq (.t 12) (.k (.int .i64 0))⟩])
     (.keep [1, 5, 13]
      (.cond (.t 13)
       (.seq
        (.ops [⟨some 4, none, .mv (.k (.int .i64 0))⟩])
        .ret)
       .skip)))
    (.keep [1, 5]
     (.seq
      (.seq
       (.ops [⟨some 14, none, .mv (.t 5)⟩,
         ⟨some 15, none, .mv (.t 1)⟩,
         ⟨some 16, none, .call 63 [.t 15]⟩,
         ⟨some 17, none, .bin .quo (.t 16) (.k (.int .u64 2))⟩,
         ⟨some 18, none, .bin .gtr (.t 14) (.t 17)⟩])
       (.keep [1, 5, 18]
        (.cond (.t 18)
         (.seq
          (.ops [⟨some 19, none, .mv (.t 1)⟩,
            ⟨some 20, none, .call 63 [.t 19]⟩,
            ⟨some 21, none, .mv (.t 5)⟩,
            ⟨some 22, none, .bin .sub (.t 20) (.t 21)⟩,
            ⟨some 23, none, .conv .i64 (.t 22)⟩,
            ⟨some 24, none, .un .neg (.t 23)⟩,
            ⟨some 25, none, .bin .sub (.t 24) (.k (.int .i64 1))⟩,
            ⟨some 4, none, .mv (.t 25)⟩])
          (.keep [4]
           .ret))
         .skip)))
      (.keep [5]
       (.seq
        (.ops [⟨some 26, none, .mv (.t 5)⟩,
          ⟨some 27, none, .conv .i64 (.t 26)⟩,
          ⟨some 4, none, .mv (.t 27)⟩])
        .ret))))))) }
structure N77 (R : Env) : Prop where
  o77 : R.Fn 77 c77
  n61 : N61 R
  n63 : N63 R
/-- (*umbra.umbraref11.Reader).Left -/
def c78 : IFn := { np := 1, rs := [.t 2], body :=
 (.seq
  (.ops [⟨some 2, none, .mv (.k (.int .i64 0))⟩])
  (.seq
   (.seq
    (.ops [⟨some 3, none, .mv (.t 0)⟩,
      ⟨some 4, none, .nilck (.t 3)⟩,
      ⟨some 5, none, .fldA 2 (.t 4)⟩,
      ⟨some 6, none, .load false 1 (.t 5)⟩,
      ⟨some 7, none, .bin .neq (.t 6) (.k (.int .i64 0))⟩])
    (.keep [0, 7]
     (.cond (.t 7)
      (.seq
       (.ops [⟨some 2, none, .mv (.k (.int .i64 0))⟩])
       .ret)
      .skip)))
   (.keep [0]
    (.seq
     (.draw [0, 1, 3, 7, 15, 0, 32, 96, 224, 511, 1023] [[0], [8], [9], [10], [11], [0], [13], [14], [15], [12, 16], [17]] [⟨some 8, none, .mv (.t 0)⟩,
       ⟨some 9, none, .nilck (.t 8)⟩,
       ⟨some 10, none, .fldA 0 (.t 9)⟩,
       ⟨some 11, none, .load false 1 (.t 10)⟩,
       ⟨some 12, none, .lenS (.t 11)⟩,
       ⟨some 13, none, .mv (.t 0)⟩,
       ⟨some 14, none, .nilck (.t 13)⟩,
       ⟨some 15, none, .fldA 1 (.t 14)⟩,
       ⟨some 16, none, .load false 1 (.t 15)⟩,
       ⟨some 17, none, .bin .sub (.t 12) (.t 16)⟩,
       ⟨some 2, none, .mv (.t 17)⟩])
     (.keep [2]
      .ret))))) }
structure N78 (R : Env) : Prop where
  o78 : R.Fn 78 c78
end Go.UM

/- The resolved code of package umbraref14, function by function; numbers are those of the register, the same for all programs. -/

namespace Go.UM
open Go.AM
/-- umbra.umbraref14.Check -/
def c85 : IFn := { np := 1, rs := [.t 2], body :=
 (.seq
  (.ops [⟨some 1, none, .box 12 (.t 0)⟩,
    ⟨some 2, none, .mv (.k (.int .i64 0))⟩])
  (.seq
   (.seq
    (.ops [⟨some 5, none, .fldA 0 (.t 1)⟩,
      ⟨some 6, none, .load false 1 (.t 5)⟩,
      ⟨some 7, none, .bin .neq (.t 6) (.k (.int .i64 1))⟩,
      ⟨some 8, none, .mv (.t 7)⟩,
      ⟨some 9, some (8, true), .fldA 0 (.t 1)⟩,
      ⟨some 10, some (8, true), .load false 1 (.t 9)⟩,
      ⟨some 11, some (8, true), .bin .neq (.t 10) (.k (.int .i64 2))⟩,
      ⟨some 12, none, .pick (.t 8) (.t 11) (.k (.bool false))⟩,
      ⟨some 13, none, .mv (.t 12)⟩,
      ⟨some 14, some (13, true), .fldA 0 (.t 1)⟩,
      ⟨some 15, some (13, true), .load false 1 (.t 14)⟩,
      ⟨some 16, some (13, true), .bin .neq (.t 15) (.k (.int .i64 4))⟩,
      ⟨some 17, none, .pick (.t 13) (.t 16) (.k (.bool false))⟩,
      ⟨some 18, none, .mv (.t 17)⟩,
      ⟨some 19, some (18, true), .fldA 0 (.t 1)⟩,
      ⟨some 20, some (18, true), .load false 1 (.t 19)⟩,
      ⟨some 21, some (18, true), .bin .neq (.t 20) (.k (.int .i64 8))⟩,
      ⟨some 22, none, .pick (.t 18) (.t 21) (.k (.bool false))⟩,
      ⟨some 23, none, .mv (.t 22)⟩,
      ⟨some 24, some (23, true), .fldA 0 (.t 1)⟩,
      ⟨some 25, some (23, true), .load false 1 (.t 24)⟩,
      ⟨some 26, some (23, true), .bin .neq (.t 25) (.k (.int .i64 16))⟩,
      ⟨some 27, none, .pick (.t 23) (.t 26) (.k (.bool false))⟩,
      ⟨some 28, none, .mv (.t 27)⟩,
      ⟨some 29, some (28, false), .fldA 1 (.t 1)⟩,
      ⟨some 30, some (28, false), .load false 1 (.t 29)⟩,
      ⟨some 31, some (28, false), .lenS (.t 30)⟩,
      ⟨some 32, some (28, false), .fldA 0 (.t 1)⟩,
      ⟨some 33, some (28, false), .load false 1 (.t 32)⟩,
      ⟨some 34, some (28, false), .fldA 0 (.t 1)⟩,
      ⟨some 35, some (28, false), .load false 1 (.t 34)⟩,
      ⟨some 36, some (28, false), .bin .mul (.t 33) (.t 35)⟩,
      ⟨some 37, some (28, false), .bin .neq (.t 31) (.t 36)⟩,
      ⟨some 38, none, .pick (.t 28) (.k (.bool true)) (.t 37)⟩])
    (.keep [1, 38]
     (.cond (.t 38)
      (.seq
       (.ops [⟨some 2, none, .mv (.k (.int .i64 5))⟩])
       .ret)
      .skip)))
   (.keep [1]
    (.seq
     (.seq
      (.ops [⟨some 3, none, .mv (.k (.int .i64 0))⟩])
      (.keep [1, 3]
       (.block 0
        (.loop
         (.seq
          (.seq
           (.ops [⟨some 39, none, .mv (.t 3)⟩,
             ⟨some 40, none, .fldA 1 (.t 1)⟩,
             ⟨some 41, none, .load false 1 (.t 40)⟩,
             ⟨some 42, none, .lenS (.t 41)⟩,
             ⟨some 43, none, .bin .lss (.t 39) (.t 42)⟩])
           (.keep [1, 3, 43]
            (.cond (.t 43)
             .skip
             (.exit 0))))
          (.keep [1, 3]
           (.seq
            (.block 1
             (.seq
              (.ops [⟨some 4, none, .mv (.k (.int .i64 0))⟩])
              (.keep [1, 3, 4]
               (.block 2
                (.loop
                 (.seq
                  (.seq
                   (.ops [⟨some 46, none, .mv (.t 4)⟩,
                     ⟨some 47, none, .bin .lss (.t 46) (.k (.int .i64 3))⟩])
                   (.cond (.t 47)
                    .skip
                    (.exit 2)))
                  (.keep [1, 3, 4]
                   (.seq
                    (.block 3
                     (.seq
                      (.ops [⟨some 50, none, .fldA 1 (.t 1)⟩,
                        ⟨some 51, none, .load false 1 (.t 50)⟩,
                        ⟨some 52, none, .mv (.t 3)⟩,
                        ⟨some 53, none, .mv (.t 4)⟩,
                        ⟨some 54, none, .idxS 3 (.t 51) (.t 52)⟩,
                        ⟨some 55, none, .idxA 3 1 (.t 54) (.t 53)⟩,
                        ⟨some 56, none, .load false 1 (.t 55)⟩,
                        ⟨some 57, none, .bin .lss (.t 56) (.k (.int .i64 0))⟩,
                        ⟨some 58, none, .mv (.t 57)⟩,
                        ⟨some 59, some (58, false), .fldA 1 (.t 1)⟩,
                        ⟨some 60, some (58, false), .load false 1 (.t 59)⟩,
                        ⟨some 61, some (58, false), .mv (.t 3)⟩,
                        ⟨some 62, some (58, false), .mv (.t 4)⟩,
                        ⟨some 63, some (58, false), .idxS 3 (.t 60) (.t 61)⟩,
                        ⟨some 64, some (58, false), .idxA 3 1 (.t 63) (.t 62)⟩,
                        ⟨some 65, some (58, false), .load false 1 (.t 64)⟩,
                        ⟨some 66, some (58, false), .bin .gtr (.t 65) (.k (.int .i64 255))⟩,
                        ⟨some 67, none, .pick (.t 58) (.k (.bool true)) (.t 66)⟩])
                      (.keep [1, 3, 4, 67]
                       (.cond (.t 67)
                        (.seq
                         (.ops [⟨some 2, none, .mv (.k (.int .i64 5))⟩])
                         .ret)
                        .skip))))
                    (.keep [1, 3, 4]
                     (.ops [⟨some 48, none, .mv (.t 4)⟩,
                       ⟨some 49, none, .bin .add (.t 48) (.k (.int .i64 1))⟩,
                       ⟨some 4, none, .mv (.t 49)⟩]))))))))))
            (.keep [1, 3]
             (.ops [⟨some 44, none, .mv (.t 3)⟩,
               ⟨some 45, none, .bin .add (.t 44) (.k (.int .i64 1))⟩,
               ⟨some 3, none, .mv (.t 45)⟩])))))))))
     (.keep []
      (.seq
       (.ops [⟨some 2, none, .mv (.k (.int .i64 0))⟩])
       .ret)))))) }
structure N85 (R : Env) : Prop where
  o85 : R.Fn 85 c85
/-- umbra.umbraref14.Encode -/
def c83 : IFn := { np := 1, rs := [.t 2, .t 3], body :=
 (.seq
  (.ops [⟨some 1, none, .box 12 (.t 0)⟩,
    ⟨some 2, none, .mv (.k (.nils))⟩,
    ⟨some 3, none, .mv (.k (.int .i64 0))⟩])
  (.seq
   (.seq
    (.ops [⟨some 8, none, .load true 2 (.t 1)⟩,
      ⟨some 9, none, .call 85 [.t 8]⟩,
      ⟨some 4, none, .mv (.t 9)⟩])
    (.seq
     (.ops [⟨some 10, none, .mv (.t 4)⟩,
       ⟨some 11, none, .bin .neq (.t 10) (.k (.int .i64 0))⟩])
     (.cond (.t 11)
      (.seq
       (.ops [⟨some 12, none, .mv (.t 4)⟩,
         ⟨some 2, none, .mv (.k (.nils))⟩,
         ⟨some 3, none, .mv (.t 12)⟩])
       .ret)
      .skip)))
   (.keep [1]
    (.seq
     (.ops [⟨some 13, none, .fldA 0 (.t 1)⟩,
       ⟨some 14, none, .load false 1 (.t 13)⟩,
       ⟨some 15, none, .conv .u8 (.t 14)⟩,
       ⟨some 16, none, .bslice 4 1 1 [.int .u8 0] [(0, .t 15)]⟩,
       ⟨some 5, none, .mv (.t 16)⟩])
     (.keep [1, 5]
      (.seq
       (.seq
        (.ops [⟨some 6, none, .mv (.k (.int .i64 0))⟩])
        (.keep [1, 5, 6]
         (.block 0
          (.loop
           (.seq
            (.seq
             (.ops [⟨some 17, none, .mv (.t 6)⟩,
               ⟨some 18, none, .fldA 1 (.t 1)⟩,
               ⟨some 19, none, .load false 1 (.t 18)⟩,
               ⟨some 20, none, .lenS (.t 19)⟩,
               ⟨some 21, none, .bin .lss (.t 17) (.t 20)⟩])
             (.keep [1, 5, 6, 21]
              (.cond (.t 21)
               .skip
               (.exit 0))))
            (.keep [1, 5, 6]
             (.seq
              (.block 1
               (.seq
                (.ops [⟨some 7, none, .mv (.k (.int .i64 0))⟩])
                (.keep [1, 5, 6, 7]
                 (.block 2
                  (.loop
                   (.seq
                    (.seq
                     (.ops [⟨some 24, none, .mv (.t 7)⟩,
                       ⟨some 25, none, .bin .lss (.t 24) (.k (.int .i64 3))⟩])
                     (.cond (.t 25)
                      .skip
                      (.exit 2)))
                    (.keep [1, 5, 6, 7]
                     (.seq
                      (.block 3
                       (.ops [⟨some 28, none, .mv (.t 5)⟩,
                         ⟨some 29, none, .fldA 1 (.t 1)⟩,
                         ⟨some 30, none, .load false 1 (.t 29)⟩,
                         ⟨some 31, none, .mv (.t 6)⟩,
                         ⟨some 32, none, .mv (.t 7)⟩,
                         ⟨some 33, none, .idxS 3 (.t 30) (.t 31)⟩,
                         ⟨some 34, none, .idxA 3 1 (.t 33) (.t 32)⟩,
                         ⟨some 35, none, .load false 1 (.t 34)⟩,
                         ⟨some 36, none, .conv .u8 (.t 35)⟩,
                         ⟨some 37, none, .bslice 4 1 1 [.int .u8 0] [(0, .t 36)]⟩,
                         ⟨some 38, none, .app 4 1 (.t 28) (.t 37)⟩,
                         ⟨some 5, none, .mv (.t 38)⟩]))
                      (.keep [1, 5, 6, 7]
                       (.ops [⟨some 26, none, .mv (.t 7)⟩,
                         ⟨some 27, none, .bin .add (.t 26) (.k (.int .i64 1))⟩,
                         ⟨some 7, none, .mv (.t 27)⟩]))))))))))
              (.keep [1, 5, 6]
               (.ops [⟨some 22, none, .mv (.t 6)⟩,
                 ⟨some 23, none, .bin .add (.t 22) (.k (.int .i64 1))⟩,
                 ⟨some 6, none, .mv (.t 23)⟩])))))))))
       (.keep [5]
        (.seq
         (.ops [⟨some 39, none, .mv (.t 5)⟩,
           ⟨some 2, none, .mv (.t 39)⟩,
           ⟨some 3, none, .mv (.k (.int .i64 0))⟩])
         .ret)))))))) }
structure N83 (R : Env) : Prop where
  o83 : R.Fn 83 c83
  n85 : N85 R
/-- umbra.umbraref14.Same -/
def c89 : IFn := { np := 2, rs := [.t 4], body :=
 (.seq
  (.ops [⟨some 2, none, .box 12 (.t 0)⟩,
    ⟨some 3, none, .box 12 (.t 1)⟩,
    ⟨some 4, none, .mv (.k (.bool false))⟩])
  (.seq
   (.seq
    (.ops [⟨some 6, none, .fldA 0 (.t 2)⟩,
      ⟨some 7, none, .load false 1 (.t 6)⟩,
      ⟨some 8, none, .fldA 0 (.t 3)⟩,
      ⟨some 9, none, .load false 1 (.t 8)⟩,
      ⟨some 10, none, .bin .neq (.t 7) (.t 9)⟩,
      ⟨some 11, none, .mv (.t 10)⟩,
      ⟨some 12, some (11, false), .fldA 1 (.t 2)⟩,
      ⟨some 13, some (11, false), .load false 1 (.t 12)⟩,
      ⟨some 14, some (11, false), .lenS (.t 13)⟩,
      ⟨some 15, some (11, false), .fldA 1 (.t 3)⟩,
      ⟨some 16, some (11, false), .load false 1 (.t 15)⟩,
      ⟨some 17, some (11, false), .lenS (.t 16)⟩,
      ⟨some 18, some (11, false), .bin .neq (.t 14) (.t 17)⟩,
      ⟨some 19, none, .pick (.t 11) (.k (.bool true)) (.t 18)⟩])
    (.keep [2, 3, 19]
     (.cond (.t 19)
      (.seq
       (.ops [⟨some 4, none, .mv (.k (.bool false))⟩])
       .ret)
      .skip)))
   (.keep [2, 3]
    (.seq
     (.seq
      (.ops [⟨some 5, none, .mv (.k (.int .i64 0))⟩])
      (.keep [2, 3, 5]
       (.block 0
        (.loop
         (.seq
          (.seq
           (.ops [⟨some 20, none, .mv (.t 5)⟩,
             ⟨some 21, none, .fldA 1 (.t 2)⟩,
             ⟨some 22, none, .load false 1 (.t 21)⟩,
             ⟨some 23, none, .lenS (.t 22)⟩,
             ⟨some 24, none, .bin .lss (.t 20) (.t 23)⟩])
           (.keep [2, 3, 5, 24]
            (.cond (.t 24)
             .skip
             (.exit 0))))
          (.keep [2, 3, 5]
           (.seq
            (.block 1
             (.seq
              (.draw [0, 1, 0, 7, 15, 0, 32, 0, 224, 480, 1023] [[2], [27], [5], [28, 29], [30], [3], [32], [5], [33, 34], [35], [31, 36]] [⟨some 27, none, .fldA 1 (.t 2)⟩,
                ⟨some 28, none, .load false 1 (.t 27)⟩,
                ⟨some 29, none, .mv (.t 5)⟩,
                ⟨some 30, none, .idxS 3 (.t 28) (.t 29)⟩,
                ⟨some 31, none, .load true 3 (.t 30)⟩,
                ⟨some 32, none, .fldA 1 (.t 3)⟩,
                ⟨some 33, none, .load false 1 (.t 32)⟩,
                ⟨some 34, none, .mv (.t 5)⟩,
                ⟨some 35, none, .idxS 3 (.t 33) (.t 34)⟩,
                ⟨some 36, none, .load true 3 (.t 35)⟩,
                ⟨some 37, none, .eqa true [.i, .i, .i] (.t 31) (.t 36)⟩])
              (.keep [2, 3, 5, 37]
               (.cond (.t 37)
                (.seq
                 (.ops [⟨some 4, none, .mv (.k (.bool false))⟩])
                 .ret)
                .skip))))
            (.keep [2, 3, 5]
             (.ops [⟨some 25, none, .mv (.t 5)⟩,
               ⟨some 26, none, .bin .add (.t 25) (.k (.int .i64 1))⟩,
               ⟨some 5, none, .mv (.t 26)⟩])))))))))
     (.keep []
      (.seq
       (.ops [⟨some 4, none, .mv (.k (.bool true))⟩])
       .ret)))))) }
structure N89 (R : Env) : Prop where
  o89 : R.Fn 89 c89
/-- umbra.umbraref14.Mod -/
def c105 : IFn := { np := 2, rs := [.t 4], body :=
 (.seq
  (.ops [⟨some 4, none, .mv (.k (.int .i64 0))⟩])
  (.seq
   (.ops [⟨some 5, none, .mv (.t 0)⟩,
     ⟨some 6, none, .mv (.t 1)⟩,
     ⟨some 7, none, .bin .rem (.t 5) (.t 6)⟩,
     ⟨some 0, none, .mv (.t 7)⟩])
   (.seq
    (.seq
     (.ops [⟨some 8, none, .mv (.t 0)⟩,
       ⟨some 9, none, .bin .lss (.t 8) (.k (.int .i64 0))⟩])
     (.cond (.t 9)
      (.ops [⟨some 10, none, .mv (.t 0)⟩,
        ⟨some 11, none, .mv (.t 1)⟩,
        ⟨some 12, none, .bin .add (.t 10) (.t 11)⟩,
        ⟨some 0, none, .mv (.t 12)⟩])
      .skip))
    (.keep [0]
     (.seq
      (.ops [⟨some 13, none, .mv (.t 0)⟩,
        ⟨some 4, none, .mv (.t 13)⟩])
      .ret))))) }
structure N105 (R : Env) : Prop where
  o105 : R.Fn 105 c105
/-- umbra.umbraref14.Texel -/
def c95 : IFn := { np := 3, rs := [.cell 6 true 3], body :=
 (.seq
  (.ops [⟨some 3, none, .box 12 (.t 0)⟩,
    ⟨some 6, none, .alloc 13 [.int .i64 0, .int .i64 0, .int .i64 0]⟩])
  (.seq
   (.draw [0, 1, 0, 0, 8, 28, 0, 64, 252, 0, 0, 1024, 3644, 8188, 16383, 32767, 65535] [[3], [7], [2], [3], [10], [9, 11], [3], [13], [12, 14], [1], [3], [17], [16, 18], [15, 19], [8, 20], [21], [6, 22]] [⟨some 7, none, .fldA 1 (.t 3)⟩,
     ⟨some 8, none, .load false 1 (.t 7)⟩,
     ⟨some 9, none, .mv (.t 2)⟩,
     ⟨some 10, none, .fldA 0 (.t 3)⟩,
     ⟨some 11, none, .load false 1 (.t 10)⟩,
     ⟨some 12, none, .call 105 [.t 9, .t 11]⟩,
     ⟨some 13, none, .fldA 0 (.t 3)⟩,
     ⟨some 14, none, .load false 1 (.t 13)⟩,
     ⟨some 15, none, .bin .mul (.t 12) (.t 14)⟩,
     ⟨some 16, none, .mv (.t 1)⟩,
     ⟨some 17, none, .fldA 0 (.t 3)⟩,
     ⟨some 18, none, .load false 1 (.t 17)⟩,
     ⟨some 19, none, .call 105 [.t 16, .t 18]⟩,
     ⟨some 20, none, .bin .add (.t 15) (.t 19)⟩,
     ⟨some 21, none, .idxS 3 (.t 8) (.t 20)⟩,
     ⟨some 22, none, .load true 3 (.t 21)⟩,
     ⟨none, none, .store 3 (.t 6) (.t 22)⟩])
   (.keep [6]
    .ret))) }
structure N95 (R : Env) : Prop where
  o95 : R.Fn 95 c95
  n105 : N105 R
/-- umbra.umbraref14.Half -/
def c92 : IFn := { np := 1, rs := [.cell 2 true 2, .t 3], body :=
 (.seq
  (.ops [⟨some 1, none, .box 12 (.t 0)⟩,
    ⟨some 2, none, .alloc 12 [.int .i64 0, .nils]⟩,
    ⟨some 3, none, .mv (.k (.int .i64 0))⟩])
  (.seq
   (.seq
    (.ops [⟨some 13, none, .load true 2 (.t 1)⟩,
      ⟨some 14, none, .call 85 [.t 13]⟩,
      ⟨some 4, none, .mv (.t 14)⟩])
    (.seq
     (.ops [⟨some 15, none, .mv (.t 4)⟩,
       ⟨some 16, none, .bin .neq (.t 15) (.k (.int .i64 0))⟩])
     (.cond (.t 16)
      (.seq
       (.ops [⟨some 17, none, .build [.int .i64 0, .nils] []⟩,
         ⟨some 18, none, .mv (.t 4)⟩,
         ⟨none, none, .store 2 (.t 2) (.t 17)⟩,
         ⟨some 3, none, .mv (.t 18)⟩])
       .ret)
      .skip)))
   (.keep [1, 2]
    (.seq
     (.seq
      (.ops [⟨some 19, none, .fldA 0 (.t 1)⟩,
        ⟨some 20, none, .load false 1 (.t 19)⟩,
        ⟨some 21, none, .bin .eql (.t 20) (.k (.int .i64 1))⟩])
      (.cond (.t 21)
       (.seq
        (.ops [⟨some 22, none, .build [.int .i64 0, .nils] []⟩,
          ⟨none, none, .store 2 (.t 2) (.t 22)⟩,
          ⟨some 3, none, .mv (.k (.int .i64 2))⟩])
        .ret)
       .skip))
     (.keep [1, 2]
      (.seq
       (.ops [⟨some 23, none, .fldA 0 (.t 1)⟩,
         ⟨some 24, none, .load false 1 (.t 23)⟩,
         ⟨some 25, none, .bin .quo (.t 24) (.k (.int .i64 2))⟩,
         ⟨some 26, none, .build [.int .i64 0, .nils] [(0, 1, .t 25)]⟩,
         ⟨some 5, none, .alloc 12 [.int .i64 0, .nils]⟩,
         ⟨none, none, .store 2 (.t 5) (.t 26)⟩])
       (.keep [1, 2, 5]
        (.seq
         (.seq
          (.ops [⟨some 6, none, .mv (.k (.int .i64 0))⟩])
          (.keep [1, 2, 5, 6]
           (.block 0
            (.loop
             (.seq
              (.seq
               (.ops [⟨some 27, none, .mv (.t 6)⟩,
                 ⟨some 28, none, .fldA 0 (.t 5)⟩,
                 ⟨some 29, none, .load false 1 (.t 28)⟩,
                 ⟨some 30, none, .bin .lss (.t 27) (.t 29)⟩])
               (.cond (.t 30)
                .skip
                (.exit 0)))
              (.keep [1, 2, 5, 6]
               (.seq
                (.block 1
                 (.seq
                  (.ops [⟨some 7, none, .mv (.k (.int .i64 0))⟩])
                  (.keep [1, 2, 5, 6, 7]
                   (.block 2
                    (.loop
                     (.seq
                      (.seq
                       (.ops [⟨some 33, none, .mv (.t 7)⟩,
                         ⟨some 34, none, .fldA 0 (.t 5)⟩,
                         ⟨some 35, none, .load false 1 (.t 34)⟩,
                         ⟨some 36, none, .bin .lss (.t 33) (.t 35)⟩])
                       (.cond (.t 36)
                        .skip
                        (.exit 2)))
                      (.keep [1, 2, 5, 6, 7]
                       (.seq
                        (.block 3
                         (.seq
                          (.ops [⟨some 8, none, .alloc 13 [.int .i64 0, .int .i64 0, .int .i64 0]⟩])
                          (.seq
                           (.seq
                            (.ops [⟨some 9, none, .mv (.k (.int .i64 0))⟩])
                            (.keep [1, 2, 5, 6, 7, 8, 9]
                             (.block 4
                              (.loop
                               (.seq
                                (.seq
                                 (.ops [⟨some 39, none, .mv (.t 9)⟩,
                                   ⟨some 40, none, .bin .lss (.t 39) (.k (.int .i64 4))⟩])
                                 (.cond (.t 40)
                                  .skip
                                  (.exit 4)))
                                (.keep [1, 2, 5, 6, 7, 8, 9]
                                 (.seq
                                  (.block 5
                                   (.seq
                                    (.ops [⟨some 43, none, .load true 2 (.t 1)⟩,
                                      ⟨some 44, none, .mv (.t 7)⟩,
                                      ⟨some 45, none, .bin .mul (.k (.int .i64 2)) (.t 44)⟩,
                                      ⟨some 46, none, .mv (.t 9)⟩,
                                      ⟨some 47, none, .bin .rem (.t 46) (.k (.int .i64 2))⟩,
                                      ⟨some 48, none, .bin .add (.t 45) (.t 47)⟩,
                                      ⟨some 49, none, .mv (.t 6)⟩,
                                      ⟨some 50, none, .bin .mul (.k (.int .i64 2)) (.t 49)⟩,
                                      ⟨some 51, none, .mv (.t 9)⟩,
                                      ⟨some 52, none, .bin .quo (.t 51) (.k (.int .i64 2))⟩,
                                      ⟨some 53, none, .bin .add (.t 50) (.t 52)⟩,
                                      ⟨some 54, none, .call 95 [.t 43, .t 48, .t 53]⟩,
                                      ⟨some 10, none, .alloc 13 [.int .i64 0, .int .i64 0, .int .i64 0]⟩,
                                      ⟨none, none, .store 3 (.t 10) (.t 54)⟩])
                                    (.keep [1, 2, 5, 6, 7, 8, 9, 10]
                                     (.seq
                                      (.ops [⟨some 11, none, .mv (.k (.int .i64 0))⟩])
                                      (.keep [1, 2, 5, 6, 7, 8, 9, 10, 11]
                                       (.block 6
                                        (.loop
                                         (.seq
                                          (.seq
                                           (.ops [⟨some 55, none, .mv (.t 11)⟩,
                                             ⟨some 56, none, .bin .lss (.t 55) (.k (.int .i64 3))⟩])
                                           (.cond (.t 56)
                                            .skip
                                            (.exit 6)))
                                          (.keep [1, 2, 5, 6, 7, 8, 9, 10, 11]
                                           (.seq
                                            (.block 7
                                             (.draw [0, 0, 2, 6, 0, 16, 48, 126, 255, 511] [[11], [11], [8, 60], [61], [11], [10, 63], [64], [62, 65], [8, 59], [67, 66]] [⟨some 59, none, .mv (.t 11)⟩,
                                               ⟨some 60, none, .mv (.t 11)⟩,
                                               ⟨some 61, none, .idxA 3 1 (.t 8) (.t 60)⟩,
                                               ⟨some 62, none, .load false 1 (.t 61)⟩,
                                               ⟨some 63, none, .mv (.t 11)⟩,
                                               ⟨some 64, none, .idxA 3 1 (.t 10) (.t 63)⟩,
                                               ⟨some 65, none, .load false 1 (.t 64)⟩,
                                               ⟨some 66, none, .bin .add (.t 62) (.t 65)⟩,
                                               ⟨some 67, none, .idxA 3 1 (.t 8) (.t 59)⟩,
                                               ⟨none, none, .store 1 (.t 67) (.t 66)⟩]))
                                            (.keep [1, 2, 5, 6, 7, 8, 9, 10, 11]
                                             (.ops [⟨some 57, none, .mv (.t 11)⟩,
                                               ⟨some 58, none, .bin .add (.t 57) (.k (.int .i64 1))⟩,
                                               ⟨some 11, none, .mv (.t 58)⟩]))))))))))))
                                  (.keep [1, 2, 5, 6, 7, 8, 9]
                                   (.ops [⟨some 41, none, .mv (.t 9)⟩,
                                     ⟨some 42, none, .bin .add (.t 41) (.k (.int .i64 1))⟩,
                                     ⟨some 9, none, .mv (.t 42)⟩])))))))))
                           (.keep [1, 2, 5, 6, 7, 8]
                            (.seq
                             (.seq
                              (.ops [⟨some 12, none, .mv (.k (.int .i64 0))⟩])
                              (.keep [1, 2, 5, 6, 7, 8, 12]
                               (.block 8
                                (.loop
                                 (.seq
                                  (.seq
                                   (.ops [⟨some 68, none, .mv (.t 12)⟩,
                                     ⟨some 69, none, .bin .lss (.t 68) (.k (.int .i64 3))⟩])
                                   (.cond (.t 69)
                                    .skip
                                    (.exit 8)))
                                  (.keep [1, 2, 5, 6, 7, 8, 12]
                                   (.seq
                                    (.block 9
                                     (.ops [⟨some 72, none, .mv (.t 12)⟩,
                                       ⟨some 73, none, .mv (.t 12)⟩,
                                       ⟨some 74, none, .idxA 3 1 (.t 8) (.t 73)⟩,
                                       ⟨some 75, none, .load false 1 (.t 74)⟩,
                                       ⟨some 76, none, .bin .add (.t 75) (.k (.int .i64 2))⟩,
                                       ⟨some 77, none, .bin .quo (.t 76) (.k (.int .i64 4))⟩,
                                       ⟨some 78, none, .idxA 3 1 (.t 8) (.t 72)⟩,
                                       ⟨none, none, .store 1 (.t 78) (.t 77)⟩]))
                                    (.keep [1, 2, 5, 6, 7, 8, 12]
                                     (.ops [⟨some 70, none, .mv (.t 12)⟩,
                                       ⟨some 71, none, .bin .add (.t 70) (.k (.int .i64 1))⟩,
                                       ⟨some 12, none, .mv (.t 71)⟩])))))))))
                             (.keep [1, 2, 5, 6, 7, 8]
                              (.ops [⟨some 79, none, .fldA 1 (.t 5)⟩,
                                ⟨some 80, none, .load false 1 (.t 79)⟩,
                                ⟨some 81, none, .load true 3 (.t 8)⟩,
                                ⟨some 82, none, .bslice 13 3 1 [.int .i64 0, .int .i64 0, .int .i64 0] [(0, .t 81)]⟩,
                                ⟨some 83, none, .app 13 3 (.t 80) (.t 82)⟩,
                                ⟨some 84, none, .fldA 1 (.t 5)⟩,
                                ⟨none, none, .store 1 (.t 84) (.t 83)⟩])))))))
                        (.keep [1, 2, 5, 6, 7]
                         (.ops [⟨some 37, none, .mv (.t 7)⟩,
                           ⟨some 38, none, .bin .add (.t 37) (.k (.int .i64 1))⟩,
                           ⟨some 7, none, .mv (.t 38)⟩]))))))))))
                (.keep [1, 2, 5, 6]
                 (.ops [⟨some 31, none, .mv (.t 6)⟩,
                   ⟨some 32, none, .bin .add (.t 31) (.k (.int .i64 1))⟩,
                   ⟨some 6, none, .mv (.t 32)⟩])))))))))
         (.keep [2, 5]
          (.seq
           (.ops [⟨some 85, none, .load true 2 (.t 5)⟩,
             ⟨none, none, .store 2 (.t 2) (.t 85)⟩,
             ⟨some 3, none, .mv (.k (.int .i64 0))⟩])
           .ret)))))))))) }
structure N92 (R : Env) : Prop where
  o92 : R.Fn 92 c92
  n85 : N85 R
  n95 : N95 R
/-- umbra.umbraref14.Levels -/
def c93 : IFn := { np := 1, rs := [.t 2, .t 3], body :=
 (.seq
  (.ops [⟨some 1, none, .box 12 (.t 0)⟩,
    ⟨some 2, none, .mv (.k (.nils))⟩,
    ⟨some 3, none, .mv (.k (.int .i64 0))⟩])
  (.seq
   (.seq
    (.ops [⟨some 6, none, .load true 2 (.t 1)⟩,
      ⟨some 7, none, .call 85 [.t 6]⟩,
      ⟨some 4, none, .mv (.t 7)⟩])
    (.seq
     (.ops [⟨some 8, none, .mv (.t 4)⟩,
       ⟨some 9, none, .bin .neq (.t 8) (.k (.int .i64 0))⟩])
     (.cond (.t 9)
      (.seq
       (.ops [⟨some 10, none, .mv (.t 4)⟩,
         ⟨some 2, none, .mv (.k (.nils))⟩,
         ⟨some 3, none, .mv (.t 10)⟩])
       .ret)
      .skip)))
   (.keep [1]
    (.seq
     (.ops [⟨some 11, none, .load true 2 (.t 1)⟩,
       ⟨some 12, none, .bslice 12 2 1 [.int .i64 0, .nils] [(0, .t 11)]⟩,
       ⟨some 5, none, .mv (.t 12)⟩])
     (.keep [1, 5]
      (.seq
       (.block 0
        (.loop
         (.seq
          (.seq
           (.ops [⟨some 13, none, .fldA 0 (.t 1)⟩,
             ⟨some 14, none, .load false 1 (.t 13)⟩,
             ⟨some 15, none, .bin .gtr (.t 14) (.k (.int .i64 1))⟩])
           (.cond (.t 15)
            .skip
            (.exit 0)))
          (.keep [1, 5]
           (.block 1
            (.seq
             (.ops [⟨some 17, none, .load true 2 (.t 1)⟩,
               ⟨some 18, none, .call 92 [.t 17]⟩,
               ⟨some 16, none, .mv (.t 18)⟩,
               ⟨some 19, none, .ext (.t 16) 0⟩,
               ⟨some 20, none, .ext (.t 16) 1⟩,
               ⟨none, none, .store 2 (.t 1) (.t 19)⟩])
             (.keep [1, 5]
              (.ops [⟨some 21, none, .mv (.t 5)⟩,
                ⟨some 22, none, .load true 2 (.t 1)⟩,
                ⟨some 23, none, .bslice 12 2 1 [.int .i64 0, .nils] [(0, .t 22)]⟩,
                ⟨some 24, none, .app 12 2 (.t 21) (.t 23)⟩,
                ⟨some 5, none, .mv (.t 24)⟩]))))))))
       (.keep [5]
        (.seq
         (.ops [⟨some 25, none, .mv (.t 5)⟩,
           ⟨some 2, none, .mv (.t 25)⟩,
           ⟨some 3, none, .mv (.k (.int .i64 0))⟩])
         .ret)))))))) }
structure N93 (R : Env) : Prop where
  o93 : R.Fn 93 c93
  n85 : N85 R
  n92 : N92 R
/-- umbra.umbraref14.Decode -/
def c98 : IFn := { np := 1, rs := [.cell 2 true 2, .t 3], body :=
 (.seq
  (.ops [⟨some 2, none, .alloc 12 [.int .i64 0, .nils]⟩,
    ⟨some 3, none, .mv (.k (.int .i64 0))⟩])
  (.seq
   (.ops [⟨some 12, none, .mv (.t 0)⟩,
     ⟨some 13, none, .build [.nils, .int .i64 0, .int .i64 0] [(0, 1, .t 12)]⟩,
     ⟨some 14, none, .box 8 (.t 13)⟩,
     ⟨some 4, none, .mv (.t 14)⟩])
   (.seq
    (.ops [⟨some 15, none, .mv (.t 4)⟩,
      ⟨some 16, none, .call 61 [.t 15, .k (.int .i64 1)]⟩,
      ⟨some 17, none, .conv .i64 (.t 16)⟩,
      ⟨some 18, none, .build [.int .i64 0, .nils] [(0, 1, .t 17)]⟩,
      ⟨some 5, none, .alloc 12 [.int .i64 0, .nils]⟩,
      ⟨none, none, .store 2 (.t 5) (.t 18)⟩])
    (.keep [2, 4, 5]
     (.seq
      (.seq
       (.ops [⟨some 6, none, .mv (.k (.int .i64 0))⟩])
       (.keep [2, 4, 5, 6]
        (.block 0
         (.loop
          (.seq
           (.seq
            (.ops [⟨some 19, none, .mv (.t 6)⟩,
              ⟨some 20, none, .fldA 0 (.t 5)⟩,
              ⟨some 21, none, .load false 1 (.t 20)⟩,
              ⟨some 22, none, .fldA 0 (.t 5)⟩,
              ⟨some 23, none, .load false 1 (.t 22)⟩,
              ⟨some 24, none, .bin .mul (.t 21) (.t 23)⟩,
              ⟨some 25, none, .bin .lss (.t 19) (.t 24)⟩,
              ⟨some 26, none, .mv (.t 25)⟩,
              ⟨some 27, some (26, true), .mv (.t 4)⟩,
              ⟨some 28, some (26, true), .nilck (.t 27)⟩,
              ⟨some 29, some (26, true), .fldA 2 (.t 28)⟩,
              ⟨some 30, some (26, true), .load false 1 (.t 29)⟩,
              ⟨some 31, some (26, true), .bin .eql (.t 30) (.k (.int .i64 0))⟩,
              ⟨some 32, none, .pick (.t 26) (.t 31) (.k (.bool false))⟩])
            (.keep [2, 4, 5, 6, 32]
             (.cond (.t 32)
              .skip
              (.exit 0))))
           (.keep [2, 4, 5, 6]
            (.seq
             (.block 1
              (.seq
               (.ops [⟨some 35, none, .mv (.t 4)⟩,
                 ⟨some 36, none, .call 61 [.t 35, .k (.int .i64 1)]⟩,
                 ⟨some 37, none, .conv .i64 (.t 36)⟩,
                 ⟨some 7, none, .mv (.t 37)⟩])
               (.seq
                (.ops [⟨some 38, none, .mv (.t 4)⟩,
                  ⟨some 39, none, .call 61 [.t 38, .k (.int .i64 1)]⟩,
                  ⟨some 40, none, .conv .i64 (.t 39)⟩,
                  ⟨some 8, none, .mv (.t 40)⟩])
                (.seq
                 (.ops [⟨some 41, none, .mv (.t 4)⟩,
                   ⟨some 42, none, .call 61 [.t 41, .k (.int .i64 1)]⟩,
                   ⟨some 43, none, .conv .i64 (.t 42)⟩,
                   ⟨some 9, none, .mv (.t 43)⟩])
                 (.ops [⟨some 44, none, .fldA 1 (.t 5)⟩,
                   ⟨some 45, none, .load false 1 (.t 44)⟩,
                   ⟨some 46, none, .mv (.t 7)⟩,
                   ⟨some 47, none, .mv (.t 8)⟩,
                   ⟨some 48, none, .mv (.t 9)⟩,
                   ⟨some 49, none, .build [.int .i64 0, .int .i64 0, .int .i64 0] [(0, 1, .t 46), (1, 1, .t 47), (2, 1, .t 48)]⟩,
                   ⟨some 50, none, .bslice 13 3 1 [.int .i64 0, .int .i64 0, .int .i64 0] [(0, .t 49)]⟩,
                   ⟨some 51, none, .app 13 3 (.t 45) (.t 50)⟩,
                   ⟨some 52, none, .fldA 1 (.t 5)⟩,
                   ⟨none, none, .store 1 (.t 52) (.t 51)⟩])))))
             (.keep [2, 4, 5, 6]
              (.ops [⟨some 33, none, .mv (.t 6)⟩,
                ⟨some 34, none, .bin .add (.t 33) (.k (.int .i64 1))⟩,
                ⟨some 6, none, .mv (.t 34)⟩])))))))))
      (.keep [2, 4, 5]
       (.seq
        (.seq
         (.ops [⟨some 53, none, .mv (.t 4)⟩,
           ⟨some 54, none, .call 69 [.t 53]⟩,
           ⟨some 10, none, .mv (.t 54)⟩])
         (.seq
          (.ops [⟨some 55, none, .mv (.t 10)⟩,
            ⟨some 56, none, .bin .neq (.t 55) (.k (.int .i64 0))⟩])
          (.cond (.t 56)
           (.seq
            (.ops [⟨some 57, none, .build [.int .i64 0, .nils] []⟩,
              ⟨some 58, none, .mv (.t 10)⟩,
              ⟨none, none, .store 2 (.t 2) (.t 57)⟩,
              ⟨some 3, none, .mv (.t 58)⟩])
            .ret)
           .skip)))
        (.keep [2, 5]
         (.seq
          (.seq
           (.ops [⟨some 59, none, .load true 2 (.t 5)⟩,
             ⟨some 60, none, .call 85 [.t 59]⟩,
             ⟨some 11, none, .mv (.t 60)⟩])
           (.seq
            (.ops [⟨some 61, none, .mv (.t 11)⟩,
              ⟨some 62, none, .bin .neq (.t 61) (.k (.int .i64 0))⟩])
            (.cond (.t 62)
             (.seq
              (.ops [⟨some 63, none, .build [.int .i64 0, .nils] []⟩,
                ⟨some 64, none, .mv (.t 11)⟩,
                ⟨none, none, .store 2 (.t 2) (.t 63)⟩,
                ⟨some 3, none, .mv (.t 64)⟩])
              .ret)
             .skip)))
          (.keep [2, 5]
           (.seq
            (.ops [⟨some 65, none, .load true 2 (.t 5)⟩,
              ⟨none, none, .store 2 (.t 2) (.t 65)⟩,
              ⟨some 3, none, .mv (.k (.int .i64 0))⟩])
            .ret))))))))))) }
structure N98 (R : Env) : Prop where
  o98 : R.Fn 98 c98
  n61 : N61 R
  n69 : N69 R
  n85 : N85 R
end Go.UM

/- The resolved code of package umbralaw14, function by function; numbers are those of the register, the same for all programs. -/



namespace Go.UM
open Go.AM
/-- umbra.umbralaw14.few -/
def c81 : IFn := { np := 1, rs := [.cell 2 true 2], body :=
 (.seq
  (.ops [⟨some 1, none, .box 12 (.t 0)⟩,
    ⟨some 2, none, .alloc 12 [.int .i64 0, .nils]⟩])
  (.seq
   (.draw [0, 1, 0, 4, 0, 16, 48, 112, 252, 511, 1023] [[1], [3], [1], [5], [1], [7], [8], [9], [6, 10], [4, 11], [2, 12]] [⟨some 3, none, .fldA 0 (.t 1)⟩,
     ⟨some 4, none, .load false 1 (.t 3)⟩,
     ⟨some 5, none, .fldA 1 (.t 1)⟩,
     ⟨some 6, none, .load false 1 (.t 5)⟩,
     ⟨some 7, none, .fldA 1 (.t 1)⟩,
     ⟨some 8, none, .load false 1 (.t 7)⟩,
     ⟨some 9, none, .lenS (.t 8)⟩,
     ⟨some 10, none, .mm false [.t 9, .k (.int .i64 260)]⟩,
     ⟨some 11, none, .slcS 13 3 (.t 6) none (some (.t 10)) none⟩,
     ⟨some 12, none, .build [.int .i64 0, .nils] [(0, 1, .t 4), (1, 1, .t 11)]⟩,
     ⟨none, none, .store 2 (.t 2) (.t 12)⟩])
   (.keep [2]
    .ret))) }
structure N81 (R : Env) : Prop where
  o81 : R.Fn 81 c81
/-- umbra.umbralaw14.works -/
def c86 : IFn := { np := 0, rs := [.t 0], body :=
 (.seq
  (.ops [⟨some 0, none, .mv (.k (.bool false))⟩])
  (.seq
   (.ops [⟨some 4, none, .build [.int .i64 0, .int .i64 0, .int .i64 0] [(0, 1, .k (.int .i64 0))]⟩,
     ⟨some 5, none, .build [.int .i64 0, .int .i64 0, .int .i64 0] [(0, 1, .k (.int .i64 1))]⟩,
     ⟨some 6, none, .build [.int .i64 0, .int .i64 0, .int .i64 0] [(0, 1, .k (.int .i64 2))]⟩,
     ⟨some 7, none, .build [.int .i64 0, .int .i64 0, .int .i64 0] [(0, 1, .k (.int .i64 4))]⟩,
     ⟨some 8, none, .bslice 13 3 4 [.int .i64 0, .int .i64 0, .int .i64 0] [(0, .t 4), (1, .t 5), (2, .t 6), (3, .t 7)]⟩,
     ⟨some 9, none, .build [.int .i64 0, .nils] [(0, 1, .k (.int .i64 2)), (1, 1, .t 8)]⟩,
     ⟨some 10, none, .call 91 [.t 9]⟩,
     ⟨some 3, none, .mv (.t 10)⟩,
     ⟨some 11, none, .ext (.t 3) 0⟩,
     ⟨some 12, none, .ext (.t 3) 1⟩,
     ⟨some 1, none, .alloc 12 [.int .i64 0, .nils]⟩,
     ⟨none, none, .store 2 (.t 1) (.t 11)⟩,
     ⟨some 2, none, .mv (.t 12)⟩])
   (.keep [1, 2]
    (.seq
     (.ops [⟨some 13, none, .mv (.t 2)⟩,
       ⟨some 14, none, .bin .eql (.t 13) (.k (.int .i64 0))⟩,
       ⟨some 15, none, .mv (.t 14)⟩,
       ⟨some 16, some (15, true), .fldA 0 (.t 1)⟩,
       ⟨some 17, some (15, true), .load false 1 (.t 16)⟩,
       ⟨some 18, some (15, true), .bin .eql (.t 17) (.k (.int .i64 1))⟩,
       ⟨some 19, none, .pick (.t 15) (.t 18) (.k (.bool false))⟩,
       ⟨some 20, none, .mv (.t 19)⟩,
       ⟨some 21, some (20, true), .fldA 1 (.t 1)⟩,
       ⟨some 22, some (20, true), .load false 1 (.t 21)⟩,
       ⟨some 23, some (20, true), .lenS (.t 22)⟩,
       ⟨some 24, some (20, true), .bin .eql (.t 23) (.k (.int .i64 1))⟩,
       ⟨some 25, none, .pick (.t 20) (.t 24) (.k (.bool false))⟩,
       ⟨some 26, none, .mv (.t 25)⟩,
       ⟨some 27, some (26, true), .fldA 1 (.t 1)⟩,
       ⟨some 28, some (26, true), .load false 1 (.t 27)⟩,
       ⟨some 29, some (26, true), .idxS 3 (.t 28) (.k (.int .i64 0))⟩,
       ⟨some 30, some (26, true), .load true 3 (.t 29)⟩,
       ⟨some 31, some (26, true), .build [.int .i64 0, .int .i64 0, .int .i64 0] [(0, 1, .k (.int .i64 2))]⟩,
       ⟨some 32, some (26, true), .eqa false [.i, .i, .i] (.t 30) (.t 31)⟩,
       ⟨some 33, none, .pick (.t 26) (.t 32) (.k (.bool false))⟩,
       ⟨some 0, none, .mv (.t 33)⟩])
     (.keep [0]
      .ret))))) }
structure N86 (R : Env) : Prop where
  o86 : R.Fn 86 c86
  n91 : N91 R
/-- umbra.umbralaw14.TextureEncodes -/
def c80 : IFn := { np := 1, rs := [.t 2], body :=
 (.seq
  (.ops [⟨some 1, none, .box 12 (.t 0)⟩,
    ⟨some 2, none, .mv (.k (.bool false))⟩])
  (.seq
   (.ops [⟨some 7, none, .load true 2 (.t 1)⟩,
     ⟨some 8, none, .call 81 [.t 7]⟩,
     ⟨none, none, .store 2 (.t 1) (.t 8)⟩])
   (.seq
    (.ops [⟨some 10, none, .load true 2 (.t 1)⟩,
      ⟨some 11, none, .call 82 [.t 10]⟩,
      ⟨some 9, none, .mv (.t 11)⟩,
      ⟨some 12, none, .ext (.t 9) 0⟩,
      ⟨some 13, none, .ext (.t 9) 1⟩,
      ⟨some 3, none, .mv (.t 12)⟩,
      ⟨some 4, none, .mv (.t 13)⟩])
    (.keep [1, 3, 4]
     (.seq
      (.ops [⟨some 15, none, .load true 2 (.t 1)⟩,
        ⟨some 16, none, .call 83 [.t 15]⟩,
        ⟨some 14, none, .mv (.t 16)⟩,
        ⟨some 17, none, .ext (.t 14) 0⟩,
        ⟨some 18, none, .ext (.t 14) 1⟩,
        ⟨some 5, none, .mv (.t 17)⟩,
        ⟨some 6, none, .mv (.t 18)⟩])
      (.keep [1, 3, 4, 5, 6]
       (.seq
        (.draw [0, 1, 0, 7, 15, 31, 63, 63, 255, 511, 1023, 2047, 2047, 8191, 16383, 32767, 65535, 131071, 262143] [[1], [19], [1], [21], [20, 22], [23], [3], [5], [25, 26], [24, 27], [28], [4], [6], [30, 31], [29, 32], [33], [], [34, 35], [36]] [⟨some 19, none, .load true 2 (.t 1)⟩,
          ⟨some 20, none, .call 84 [.t 19]⟩,
          ⟨some 21, none, .load true 2 (.t 1)⟩,
          ⟨some 22, none, .call 85 [.t 21]⟩,
          ⟨some 23, none, .bin .eql (.t 20) (.t 22)⟩,
          ⟨some 24, none, .mv (.t 23)⟩,
          ⟨some 25, some (24, true), .mv (.t 3)⟩,
          ⟨some 26, some (24, true), .mv (.t 5)⟩,
          ⟨some 27, some (24, true), .call 47 [.t 25, .t 26]⟩,
          ⟨some 28, none, .pick (.t 24) (.t 27) (.k (.bool false))⟩,
          ⟨some 29, none, .mv (.t 28)⟩,
          ⟨some 30, some (29, true), .mv (.t 4)⟩,
          ⟨some 31, some (29, true), .mv (.t 6)⟩,
          ⟨some 32, some (29, true), .bin .eql (.t 30) (.t 31)⟩,
          ⟨some 33, none, .pick (.t 29) (.t 32) (.k (.bool false))⟩,
          ⟨some 34, none, .mv (.t 33)⟩,
          ⟨some 35, some (34, true), .call 86 []⟩,
          ⟨some 36, none, .pick (.t 34) (.t 35) (.k (.bool false))⟩,
          ⟨some 2, none, .mv (.t 36)⟩])
        (.keep [2]
         .ret)))))))) }
structure N80 (R : Env) : Prop where
  o80 : R.Fn 80 c80
  n47 : N47 R
  n81 : N81 R
  n82 : N82 R
  n83 : N83 R
  n84 : N84 R
  n85 : N85 R
  n86 : N86 R
/-- umbra.umbralaw14.TextureBetween -/
def c87 : IFn := { np := 1, rs := [.t 2], body :=
 (.seq
  (.ops [⟨some 1, none, .box 12 (.t 0)⟩,
    ⟨some 2, none, .mv (.k (.bool false))⟩])
  (.seq
   (.ops [⟨some 13, none, .load true 2 (.t 1)⟩,
     ⟨some 14, none, .call 81 [.t 13]⟩,
     ⟨none, none, .store 2 (.t 1) (.t 14)⟩])
   (.seq
    (.ops [⟨some 16, none, .load true 2 (.t 1)⟩,
      ⟨some 17, none, .call 88 [.t 16]⟩,
      ⟨some 15, none, .mv (.t 17)⟩,
      ⟨some 18, none, .ext (.t 15) 0⟩,
      ⟨some 19, none, .ext (.t 15) 1⟩,
      ⟨some 3, none, .mv (.t 18)⟩,
      ⟨some 4, none, .mv (.t 19)⟩])
    (.keep [1, 3, 4]
     (.seq
      (.seq
       (.ops [⟨some 20, none, .mv (.t 4)⟩,
         ⟨some 21, none, .bin .neq (.t 20) (.k (.int .i64 0))⟩])
       (.cond (.t 21)
        (.seq
         (.ops [⟨some 22, none, .mv (.t 3)⟩,
           ⟨some 23, none, .lenS (.t 22)⟩,
           ⟨some 24, none, .bin .eql (.t 23) (.k (.int .i64 0))⟩,
           ⟨some 25, none, .mv (.t 24)⟩,
           ⟨some 26, some (25, true), .call 86 []⟩,
           ⟨some 27, none, .pick (.t 25) (.t 26) (.k (.bool false))⟩,
           ⟨some 2, none, .mv (.t 27)⟩])
         (.keep [2]
          .ret))
        .skip))
      (.keep [1, 3]
       (.seq
        (.seq
         (.draw [0, 1, 3, 7, 15, 31, 63, 15, 255, 511, 1023, 2047, 4095, 4095, 12287, 28671, 65535, 131071, 262143, 524287, 1048575] [[3], [28], [29], [30], [3], [32], [33], [1], [34, 35], [36], [31, 37], [38], [3], [3], [41], [42], [40, 43], [44], [45], [46], [39, 47]] [⟨some 28, none, .mv (.t 3)⟩,
           ⟨some 29, none, .lenS (.t 28)⟩,
           ⟨some 30, none, .bin .eql (.t 29) (.k (.int .i64 0))⟩,
           ⟨some 31, none, .mv (.t 30)⟩,
           ⟨some 32, some (31, false), .mv (.t 3)⟩,
           ⟨some 33, some (31, false), .idxS 2 (.t 32) (.k (.int .i64 0))⟩,
           ⟨some 34, some (31, false), .load true 2 (.t 33)⟩,
           ⟨some 35, some (31, false), .load true 2 (.t 1)⟩,
           ⟨some 36, some (31, false), .call 89 [.t 34, .t 35]⟩,
           ⟨some 37, some (31, false), .un .not (.t 36)⟩,
           ⟨some 38, none, .pick (.t 31) (.k (.bool true)) (.t 37)⟩,
           ⟨some 39, none, .mv (.t 38)⟩,
           ⟨some 40, some (39, false), .mv (.t 3)⟩,
           ⟨some 41, some (39, false), .mv (.t 3)⟩,
           ⟨some 42, some (39, false), .lenS (.t 41)⟩,
           ⟨some 43, some (39, false), .bin .sub (.t 42) (.k (.int .i64 1))⟩,
           ⟨some 44, some (39, false), .idxS 2 (.t 40) (.t 43)⟩,
           ⟨some 45, some (39, false), .fldA 0 (.t 44)⟩,
           ⟨some 46, some (39, false), .load false 1 (.t 45)⟩,
           ⟨some 47, some (39, false), .bin .neq (.t 46) (.k (.int .i64 1))⟩,
           ⟨some 48, none, .pick (.t 39) (.k (.bool true)) (.t 47)⟩])
         (.keep [3, 48]
          (.cond (.t 48)
           (.seq
            (.ops [⟨some 2, none, .mv (.k (.bool false))⟩])
            .ret)
           .skip)))
        (.keep [3]
         (.seq
          (.seq
           (.ops [⟨some 5, none, .mv (.k (.int .i64 1))⟩])
           (.keep [3, 5]
            (.block 0
             (.loop
              (.seq
               (.seq
                (.ops [⟨some 49, none, .mv (.t 5)⟩,
                  ⟨some 50, none, .mv (.t 3)⟩,
                  ⟨some 51, none, .lenS (.t 50)⟩,
                  ⟨some 52, none, .bin .lss (.t 49) (.t 51)⟩])
                (.cond (.t 52)
                 .skip
                 (.exit 0)))
               (.keep [3, 5]
                (.seq
                 (.block 1
                  (.seq
                   (.seq
                    (.draw [0, 0, 3, 7, 15, 31, 0, 0, 128, 448, 960, 1984, 4095, 8191, 16383, 16383, 65535, 131071, 262143, 524287, 1048575] [[3], [5], [55, 56], [57], [58], [59], [3], [5], [62], [61, 63], [64], [65], [60, 66], [67], [3], [5], [69, 70], [71], [72], [73], [68, 74]] [⟨some 55, none, .mv (.t 3)⟩,
                      ⟨some 56, none, .mv (.t 5)⟩,
                      ⟨some 57, none, .idxS 2 (.t 55) (.t 56)⟩,
                      ⟨some 58, none, .fldA 0 (.t 57)⟩,
                      ⟨some 59, none, .load false 1 (.t 58)⟩,
                      ⟨some 60, none, .bin .mul (.k (.int .i64 2)) (.t 59)⟩,
                      ⟨some 61, none, .mv (.t 3)⟩,
                      ⟨some 62, none, .mv (.t 5)⟩,
                      ⟨some 63, none, .bin .sub (.t 62) (.k (.int .i64 1))⟩,
                      ⟨some 64, none, .idxS 2 (.t 61) (.t 63)⟩,
                      ⟨some 65, none, .fldA 0 (.t 64)⟩,
                      ⟨some 66, none, .load false 1 (.t 65)⟩,
                      ⟨some 67, none, .bin .neq (.t 60) (.t 66)⟩,
                      ⟨some 68, none, .mv (.t 67)⟩,
                      ⟨some 69, some (68, false), .mv (.t 3)⟩,
                      ⟨some 70, some (68, false), .mv (.t 5)⟩,
                      ⟨some 71, some (68, false), .idxS 2 (.t 69) (.t 70)⟩,
                      ⟨some 72, some (68, false), .load true 2 (.t 71)⟩,
                      ⟨some 73, some (68, false), .call 84 [.t 72]⟩,
                      ⟨some 74, some (68, false), .bin .neq (.t 73) (.k (.int .i64 0))⟩,
                      ⟨some 75, none, .pick (.t 68) (.k (.bool true)) (.t 74)⟩])
                    (.keep [3, 5, 75]
                     (.cond (.t 75)
                      (.seq
                       (.ops [⟨some 2, none, .mv (.k (.bool false))⟩])
                       .ret)
                      .skip)))
                   (.keep [3, 5]
                    (.seq
                     (.ops [⟨some 76, none, .mv (.k (.int .i64 0))⟩])
                     (.keep [3, 5, 76]
                      (.block 2
                       (.loop
                        (.seq
                         (.ops [⟨some 77, none, .bin .lss (.t 76) (.k (.int .i64 3))⟩])
                         (.seq
                          (.cond (.t 77)
                           .skip
                           (.exit 2))
                          (.keep [3, 5, 76]
                           (.seq
                            (.block 3
                             (.seq
                              (.ops [⟨some 78, none, .mv (.t 76)⟩,
                                ⟨some 6, none, .mv (.t 78)⟩])
                              (.seq
                               (.ops [⟨some 7, none, .mv (.k (.int .i64 255))⟩,
                                 ⟨some 8, none, .mv (.k (.int .i64 0))⟩])
                               (.seq
                                (.seq
                                 (.ops [⟨some 79, none, .mv (.t 3)⟩,
                                   ⟨some 80, none, .mv (.t 5)⟩,
                                   ⟨some 81, none, .bin .sub (.t 80) (.k (.int .i64 1))⟩,
                                   ⟨some 82, none, .idxS 2 (.t 79) (.t 81)⟩,
                                   ⟨some 83, none, .fldA 1 (.t 82)⟩,
                                   ⟨some 84, none, .load false 1 (.t 83)⟩,
                                   ⟨some 85, none, .lenS (.t 84)⟩,
                                   ⟨some 86, none, .mv (.k (.int .i64 0))⟩])
                                 (.keep [3, 5, 6, 7, 8, 76, 84, 85, 86]
                                  (.block 4
                                   (.loop
                                    (.seq
                                     (.ops [⟨some 87, none, .bin .lss (.t 86) (.t 85)⟩])
                                     (.seq
                                      (.cond (.t 87)
                                       .skip
                                       (.exit 4))
                                      (.keep [3, 5, 6, 7, 8, 76, 84, 85, 86]
                                       (.seq
                                        (.block 5
                                         (.seq
                                          (.ops [⟨some 88, none, .idxS 3 (.t 84) (.t 86)⟩,
                                            ⟨some 89, none, .load true 3 (.t 88)⟩,
                                            ⟨some 10, none, .alloc 13 [.int .i64 0, .int .i64 0, .int .i64 0]⟩,
                                            ⟨none, none, .store 3 (.t 10) (.t 89)⟩])
                                          (.draw [0, 0, 2, 6, 15, 0, 0, 64, 192, 480, 31, 2047] [[7], [6], [10, 91], [92], [90, 93], [8], [6], [10, 96], [97], [95, 98], [94], [99]] [⟨some 90, none, .mv (.t 7)⟩,
                                            ⟨some 91, none, .mv (.t 6)⟩,
                                            ⟨some 92, none, .idxA 3 1 (.t 10) (.t 91)⟩,
                                            ⟨some 93, none, .load false 1 (.t 92)⟩,
                                            ⟨some 94, none, .mm false [.t 90, .t 93]⟩,
                                            ⟨some 95, none, .mv (.t 8)⟩,
                                            ⟨some 96, none, .mv (.t 6)⟩,
                                            ⟨some 97, none, .idxA 3 1 (.t 10) (.t 96)⟩,
                                            ⟨some 98, none, .load false 1 (.t 97)⟩,
                                            ⟨some 99, none, .mm true [.t 95, .t 98]⟩,
                                            ⟨some 7, none, .mv (.t 94)⟩,
                                            ⟨some 8, none, .mv (.t 99)⟩])))
                                        (.keep [3, 5, 6, 7, 8, 76, 84, 85, 86]
                                         (.ops [⟨some 100, none, .bin .add (.t 86) (.k (.int .i64 1))⟩,
                                           ⟨some 86, none, .mv (.t 100)⟩]))))))))))
                                (.keep [3, 5, 6, 7, 8, 76]
                                 (.seq
                                  (.ops [⟨some 101, none, .mv (.t 3)⟩,
                                    ⟨some 102, none, .mv (.t 5)⟩,
                                    ⟨some 103, none, .idxS 2 (.t 101) (.t 102)⟩,
                                    ⟨some 104, none, .fldA 1 (.t 103)⟩,
                                    ⟨some 105, none, .load false 1 (.t 104)⟩,
                                    ⟨some 106, none, .lenS (.t 105)⟩,
                                    ⟨some 107, none, .mv (.k (.int .i64 0))⟩])
                                  (.keep [3, 5, 6, 7, 8, 76, 105, 106, 107]
                                   (.block 6
                                    (.loop
                                     (.seq
                                      (.ops [⟨some 108, none, .bin .lss (.t 107) (.t 106)⟩])
                                      (.seq
                                       (.cond (.t 108)
                                        .skip
                                        (.exit 6))
                                       (.keep [3, 5, 6, 7, 8, 76, 105, 106, 107]
                                        (.seq
                                         (.block 7
                                          (.seq
                                           (.ops [⟨some 109, none, .idxS 3 (.t 105) (.t 107)⟩,
                                             ⟨some 110, none, .load true 3 (.t 109)⟩,
                                             ⟨some 12, none, .alloc 13 [.int .i64 0, .int .i64 0, .int .i64 0]⟩,
                                             ⟨none, none, .store 3 (.t 12) (.t 110)⟩])
                                           (.seq
                                            (.ops [⟨some 111, none, .mv (.t 6)⟩,
                                              ⟨some 112, none, .idxA 3 1 (.t 12) (.t 111)⟩,
                                              ⟨some 113, none, .load false 1 (.t 112)⟩,
                                              ⟨some 114, none, .mv (.t 7)⟩,
                                              ⟨some 115, none, .bin .lss (.t 113) (.t 114)⟩,
                                              ⟨some 116, none, .mv (.t 115)⟩,
                                              ⟨some 117, some (116, false), .mv (.t 6)⟩,
                                              ⟨some 118, some (116, false), .idxA 3 1 (.t 12) (.t 117)⟩,
                                              ⟨some 119, some (116, false), .load false 1 (.t 118)⟩,
                                              ⟨some 120, some (116, false), .mv (.t 8)⟩,
                                              ⟨some 121, some (116, false), .bin .gtr (.t 119) (.t 120)⟩,
                                              ⟨some 122, none, .pick (.t 116) (.k (.bool true)) (.t 121)⟩])
                                            (.keep [3, 5, 6, 7, 8, 76, 105, 106, 107, 122]
                                             (.cond (.t 122)
                                              (.seq
                                               (.ops [⟨some 2, none, .mv (.k (.bool false))⟩])
                                               .ret)
                                              .skip)))))
                                         (.keep [3, 5, 6, 7, 8, 76, 105, 106, 107]
                                          (.ops [⟨some 123, none, .bin .add (.t 107) (.k (.int .i64 1))⟩,
                                            ⟨some 107, none, .mv (.t 123)⟩])))))))))))))))
                            (.keep [3, 5, 76]
                             (.ops [⟨some 124, none, .bin .add (.t 76) (.k (.int .i64 1))⟩,
                               ⟨some 76, none, .mv (.t 124)⟩])))))))))))))
                 (.keep [3, 5]
                  (.ops [⟨some 53, none, .mv (.t 5)⟩,
                    ⟨some 54, none, .bin .add (.t 53) (.k (.int .i64 1))⟩,
                    ⟨some 5, none, .mv (.t 54)⟩])))))))))
          (.keep []
           (.seq
            (.ops [⟨some 125, none, .call 86 []⟩,
              ⟨some 2, none, .mv (.t 125)⟩])
            .ret))))))))))) }
structure N87 (R : Env) : Prop where
  o87 : R.Fn 87 c87
  n81 : N81 R
  n84 : N84 R
  n86 : N86 R
  n88 : N88 R
  n89 : N89 R
/-- umbra.umbralaw14.TextureLevels -/
def c90 : IFn := { np := 3, rs := [.t 6], body :=
 (.seq
  (.ops [⟨some 3, none, .box 12 (.t 0)⟩,
    ⟨some 6, none, .mv (.k (.bool false))⟩])
  (.seq
   (.ops [⟨some 18, none, .load true 2 (.t 3)⟩,
     ⟨some 19, none, .call 81 [.t 18]⟩,
     ⟨none, none, .store 2 (.t 3) (.t 19)⟩])
   (.seq
    (.ops [⟨some 21, none, .load true 2 (.t 3)⟩,
      ⟨some 22, none, .call 91 [.t 21]⟩,
      ⟨some 20, none, .mv (.t 22)⟩,
      ⟨some 23, none, .ext (.t 20) 0⟩,
      ⟨some 24, none, .ext (.t 20) 1⟩,
      ⟨some 7, none, .alloc 12 [.int .i64 0, .nils]⟩,
      ⟨none, none, .store 2 (.t 7) (.t 23)⟩,
      ⟨some 8, none, .mv (.t 24)⟩])
    (.keep [1, 2, 3, 7, 8]
     (.seq
      (.ops [⟨some 26, none, .load true 2 (.t 3)⟩,
        ⟨some 27, none, .call 92 [.t 26]⟩,
        ⟨some 25, none, .mv (.t 27)⟩,
        ⟨some 28, none, .ext (.t 25) 0⟩,
        ⟨some 29, none, .ext (.t 25) 1⟩,
        ⟨some 9, none, .alloc 12 [.int .i64 0, .nils]⟩,
        ⟨none, none, .store 2 (.t 9) (.t 28)⟩,
        ⟨some 10, none, .mv (.t 29)⟩])
      (.keep [1, 2, 3, 7, 8, 9, 10]
       (.seq
        (.ops [⟨some 31, none, .load true 2 (.t 3)⟩,
          ⟨some 32, none, .call 88 [.t 31]⟩,
          ⟨some 30, none, .mv (.t 32)⟩,
          ⟨some 33, none, .ext (.t 30) 0⟩,
          ⟨some 34, none, .ext (.t 30) 1⟩,
          ⟨some 11, none, .mv (.t 33)⟩,
          ⟨some 12, none, .mv (.t 34)⟩])
        (.keep [1, 2, 3, 7, 8, 9, 10, 11, 12]
         (.seq
          (.ops [⟨some 36, none, .load true 2 (.t 3)⟩,
            ⟨some 37, none, .call 93 [.t 36]⟩,
            ⟨some 35, none, .mv (.t 37)⟩,
            ⟨some 38, none, .ext (.t 35) 0⟩,
            ⟨some 39, none, .ext (.t 35) 1⟩,
            ⟨some 13, none, .mv (.t 38)⟩,
            ⟨some 14, none, .mv (.t 39)⟩])
          (.keep [1, 2, 3, 7, 8, 9, 10, 11, 12, 13, 14]
           (.seq
            (.seq
             (.ops [⟨some 40, none, .load true 2 (.t 7)⟩,
               ⟨some 41, none, .load true 2 (.t 9)⟩,
               ⟨some 42, none, .call 89 [.t 40, .t 41]⟩,
               ⟨some 43, none, .un .not (.t 42)⟩,
               ⟨some 44, none, .mv (.t 43)⟩,
               ⟨some 45, some (44, false), .mv (.t 8)⟩,
               ⟨some 46, some (44, false), .mv (.t 10)⟩,
               ⟨some 47, some (44, false), .bin .neq (.t 45) (.t 46)⟩,
               ⟨some 48, none, .pick (.t 44) (.k (.bool true)) (.t 47)⟩,
               ⟨some 49, none, .mv (.t 48)⟩,
               ⟨some 50, some (49, false), .mv (.t 11)⟩,
               ⟨some 51, some (49, false), .lenS (.t 50)⟩,
               ⟨some 52, some (49, false), .mv (.t 13)⟩,
               ⟨some 53, some (49, false), .lenS (.t 52)⟩,
               ⟨some 54, some (49, false), .bin .neq (.t 51) (.t 53)⟩,
               ⟨some 55, none, .pick (.t 49) (.k (.bool true)) (.t 54)⟩,
               ⟨some 56, none, .mv (.t 55)⟩,
               ⟨some 57, some (56, false), .mv (.t 12)⟩,
               ⟨some 58, some (56, false), .mv (.t 14)⟩,
               ⟨some 59, some (56, false), .bin .neq (.t 57) (.t 58)⟩,
               ⟨some 60, none, .pick (.t 56) (.k (.bool true)) (.t 59)⟩])
             (.keep [1, 2, 3, 11, 13, 14, 60]
              (.cond (.t 60)
               (.seq
                (.ops [⟨some 6, none, .mv (.k (.bool false))⟩])
                .ret)
               .skip)))
            (.keep [1, 2, 3, 11, 13, 14]
             (.seq
              (.seq
               (.ops [⟨some 61, none, .mv (.t 11)⟩,
                 ⟨some 62, none, .lenS (.t 61)⟩,
                 ⟨some 63, none, .mv (.k (.int .i64 0))⟩])
               (.keep [1, 2, 3, 11, 13, 14, 62, 63]
                (.block 0
                 (.loop
                  (.seq
                   (.ops [⟨some 64, none, .bin .lss (.t 63) (.t 62)⟩])
                   (.seq
                    (.cond (.t 64)
                     .skip
                     (.exit 0))
                    (.keep [1, 2, 3, 11, 13, 14, 62, 63]
                     (.seq
                      (.block 1
                       (.seq
                        (.ops [⟨some 65, none, .mv (.t 63)⟩,
                          ⟨some 15, none, .mv (.t 65)⟩])
                        (.seq
                         (.draw [0, 0, 3, 7, 0, 0, 48, 112, 255, 511] [[11], [15], [66, 67], [68], [13], [15], [70, 71], [72], [69, 73], [74]] [⟨some 66, none, .mv (.t 11)⟩,
                           ⟨some 67, none, .mv (.t 15)⟩,
                           ⟨some 68, none, .idxS 2 (.t 66) (.t 67)⟩,
                           ⟨some 69, none, .load true 2 (.t 68)⟩,
                           ⟨some 70, none, .mv (.t 13)⟩,
                           ⟨some 71, none, .mv (.t 15)⟩,
                           ⟨some 72, none, .idxS 2 (.t 70) (.t 71)⟩,
                           ⟨some 73, none, .load true 2 (.t 72)⟩,
                           ⟨some 74, none, .call 89 [.t 69, .t 73]⟩,
                           ⟨some 75, none, .un .not (.t 74)⟩])
                         (.keep [1, 2, 3, 11, 13, 14, 62, 63, 75]
                          (.cond (.t 75)
                           (.seq
                            (.ops [⟨some 6, none, .mv (.k (.bool false))⟩])
                            .ret)
                           .skip)))))
                      (.keep [1, 2, 3, 11, 13, 14, 62, 63]
                       (.ops [⟨some 76, none, .bin .add (.t 63) (.k (.int .i64 1))⟩,
                         ⟨some 63, none, .mv (.t 76)⟩]))))))))))
              (.keep [1, 2, 3, 14]
               (.seq
                (.ops [⟨some 78, none, .load true 2 (.t 3)⟩,
                  ⟨some 79, none, .mv (.t 1)⟩,
                  ⟨some 80, none, .mv (.t 2)⟩,
                  ⟨some 81, none, .call 94 [.t 78, .t 79, .t 80]⟩,
                  ⟨some 77, none, .mv (.t 81)⟩,
                  ⟨some 82, none, .ext (.t 77) 0⟩,
                  ⟨some 83, none, .ext (.t 77) 1⟩,
                  ⟨some 16, none, .alloc 13 [.int .i64 0, .int .i64 0, .int .i64 0]⟩,
                  ⟨none, none, .store 3 (.t 16) (.t 82)⟩,
                  ⟨some 17, none, .mv (.t 83)⟩])
                (.keep [1, 2, 3, 14, 16, 17]
                 (.seq
                  (.seq
                   (.ops [⟨some 84, none, .mv (.t 14)⟩,
                     ⟨some 85, none, .bin .neq (.t 84) (.k (.int .i64 0))⟩])
                   (.cond (.t 85)
                    (.seq
                     (.ops [⟨some 86, none, .mv (.t 17)⟩,
                       ⟨some 87, none, .mv (.t 14)⟩,
                       ⟨some 88, none, .bin .eql (.t 86) (.t 87)⟩,
                       ⟨some 89, none, .mv (.t 88)⟩,
                       ⟨some 90, some (89, true), .load true 3 (.t 16)⟩,
                       ⟨some 91, some (89, true), .build [.int .i64 0, .int .i64 0, .int .i64 0] []⟩,
                       ⟨some 92, some (89, true), .eqa false [.i, .i, .i] (.t 90) (.t 91)⟩,
                       ⟨some 93, none, .pick (.t 89) (.t 92) (.k (.bool false))⟩,
                       ⟨some 94, none, .mv (.t 93)⟩,
                       ⟨some 95, some (94, true), .call 86 []⟩,
                       ⟨some 96, none, .pick (.t 94) (.t 95) (.k (.bool false))⟩,
                       ⟨some 6, none, .mv (.t 96)⟩])
                     (.keep [6]
                      .ret))
                    .skip))
                  (.keep [1, 2, 3, 16, 17]
                   (.seq
                    (.draw [0, 1, 3, 7, 7, 7, 7, 119, 255, 511, 1023, 2047, 4095, 8191] [[17], [97], [98], [16], [3], [1], [2], [101, 102, 103], [100, 104], [99, 105], [106], [], [107, 108], [109]] [⟨some 97, none, .mv (.t 17)⟩,
                      ⟨some 98, none, .bin .eql (.t 97) (.k (.int .i64 0))⟩,
                      ⟨some 99, none, .mv (.t 98)⟩,
                      ⟨some 100, some (99, true), .load true 3 (.t 16)⟩,
                      ⟨some 101, some (99, true), .load true 2 (.t 3)⟩,
                      ⟨some 102, some (99, true), .mv (.t 1)⟩,
                      ⟨some 103, some (99, true), .mv (.t 2)⟩,
                      ⟨some 104, some (99, true), .call 95 [.t 101, .t 102, .t 103]⟩,
                      ⟨some 105, some (99, true), .eqa false [.i, .i, .i] (.t 100) (.t 104)⟩,
                      ⟨some 106, none, .pick (.t 99) (.t 105) (.k (.bool false))⟩,
                      ⟨some 107, none, .mv (.t 106)⟩,
                      ⟨some 108, some (107, true), .call 86 []⟩,
                      ⟨some 109, none, .pick (.t 107) (.t 108) (.k (.bool false))⟩,
                      ⟨some 6, none, .mv (.t 109)⟩])
                    (.keep [6]
                     .ret)))))))))))))))))))) }
structure N90 (R : Env) : Prop where
  o90 : R.Fn 90 c90
  n81 : N81 R
  n86 : N86 R
  n88 : N88 R
  n89 : N89 R
  n91 : N91 R
  n92 : N92 R
  n93 : N93 R
  n94 : N94 R
  n95 : N95 R
/-- umbra.umbralaw14.TextureDecodes -/
def c96 : IFn := { np := 1, rs := [.t 2], body :=
 (.seq
  (.ops [⟨some 2, none, .mv (.k (.bool false))⟩])
  (.seq
   (.ops [⟨some 7, none, .mv (.t 0)⟩,
     ⟨some 8, none, .mv (.t 0)⟩,
     ⟨some 9, none, .lenS (.t 8)⟩,
     ⟨some 10, none, .mm false [.t 9, .k (.int .i64 800)]⟩,
     ⟨some 11, none, .slcS 4 1 (.t 7) none (some (.t 10)) none⟩,
     ⟨some 0, none, .mv (.t 11)⟩])
   (.keep [0]
    (.seq
     (.ops [⟨some 13, none, .mv (.t 0)⟩,
       ⟨some 14, none, .call 97 [.t 13]⟩,
       ⟨some 12, none, .mv (.t 14)⟩,
       ⟨some 15, none, .ext (.t 12) 0⟩,
       ⟨some 16, none, .ext (.t 12) 1⟩,
       ⟨some 3, none, .alloc 12 [.int .i64 0, .nils]⟩,
       ⟨none, none, .store 2 (.t 3) (.t 15)⟩,
       ⟨some 4, none, .mv (.t 16)⟩])
     (.keep [0, 3, 4]
      (.seq
       (.ops [⟨some 18, none, .mv (.t 0)⟩,
         ⟨some 19, none, .call 98 [.t 18]⟩,
         ⟨some 17, none, .mv (.t 19)⟩,
         ⟨some 20, none, .ext (.t 17) 0⟩,
         ⟨some 21, none, .ext (.t 17) 1⟩,
         ⟨some 5, none, .alloc 12 [.int .i64 0, .nils]⟩,
         ⟨none, none, .store 2 (.t 5) (.t 20)⟩,
         ⟨some 6, none, .mv (.t 21)⟩])
       (.keep [3, 4, 5, 6]
        (.seq
         (.ops [⟨some 22, none, .load true 2 (.t 3)⟩,
           ⟨some 23, none, .load true 2 (.t 5)⟩,
           ⟨some 24, none, .call 89 [.t 22, .t 23]⟩,
           ⟨some 25, none, .mv (.t 24)⟩,
           ⟨some 26, some (25, true), .mv (.t 4)⟩,
           ⟨some 27, some (25, true), .mv (.t 6)⟩,
           ⟨some 28, some (25, true), .bin .eql (.t 26) (.t 27)⟩,
           ⟨some 29, none, .pick (.t 25) (.t 28) (.k (.bool false))⟩,
           ⟨some 30, none, .mv (.t 29)⟩,
           ⟨some 31, some (30, true), .call 86 []⟩,
           ⟨some 32, none, .pick (.t 30) (.t 31) (.k (.bool false))⟩,
           ⟨some 2, none, .mv (.t 32)⟩])
         (.keep [2]
          .ret))))))))) }
structure N96 (R : Env) : Prop where
  o96 : R.Fn 96 c96
  n86 : N86 R
  n89 : N89 R
  n97 : N97 R
  n98 : N98 R
/-- umbra.umbralaw14.TextureBack -/
def c99 : IFn := { np := 2, rs := [.t 4], body :=
 (.seq
  (.ops [⟨some 2, none, .box 12 (.t 0)⟩,
    ⟨some 4, none, .mv (.k (.bool false))⟩])
  (.seq
   (.draw [0, 1, 0, 0, 8, 24, 60, 3, 255] [[2], [13], [1], [1], [16], [17], [15, 18], [2, 14], [19]] [⟨some 13, none, .load true 2 (.t 2)⟩,
     ⟨some 14, none, .call 81 [.t 13]⟩,
     ⟨some 15, none, .mv (.t 1)⟩,
     ⟨some 16, none, .mv (.t 1)⟩,
     ⟨some 17, none, .lenS (.t 16)⟩,
     ⟨some 18, none, .mm false [.t 17, .k (.int .i64 800)]⟩,
     ⟨some 19, none, .slcS 4 1 (.t 15) none (some (.t 18)) none⟩,
     ⟨none, none, .store 2 (.t 2) (.t 14)⟩,
     ⟨some 1, none, .mv (.t 19)⟩])
   (.keep [1, 2]
    (.seq
     (.seq
      (.ops [⟨some 21, none, .load true 2 (.t 2)⟩,
        ⟨some 22, none, .call 82 [.t 21]⟩,
        ⟨some 20, none, .mv (.t 22)⟩,
        ⟨some 23, none, .ext (.t 20) 0⟩,
        ⟨some 24, none, .ext (.t 20) 1⟩,
        ⟨some 5, none, .mv (.t 23)⟩,
        ⟨some 6, none, .mv (.t 24)⟩])
      (.keep [1, 2, 5, 6]
       (.seq
        (.ops [⟨some 25, none, .mv (.t 6)⟩,
          ⟨some 26, none, .bin .eql (.t 25) (.k (.int .i64 0))⟩])
        (.cond (.t 26)
         (.seq
          (.ops [⟨some 28, none, .mv (.t 5)⟩,
            ⟨some 29, none, .call 97 [.t 28]⟩,
            ⟨some 27, none, .mv (.t 29)⟩,
            ⟨some 30, none, .ext (.t 27) 0⟩,
            ⟨some 31, none, .ext (.t 27) 1⟩,
            ⟨some 7, none, .alloc 12 [.int .i64 0, .nils]⟩,
            ⟨none, none, .store 2 (.t 7) (.t 30)⟩,
            ⟨some 8, none, .mv (.t 31)⟩])
          (.keep [1, 2, 7, 8]
           (.seq
            (.ops [⟨some 32, none, .mv (.t 8)⟩,
              ⟨some 33, none, .bin .neq (.t 32) (.k (.int .i64 0))⟩,
              ⟨some 34, none, .mv (.t 33)⟩,
              ⟨some 35, some (34, false), .load true 2 (.t 2)⟩,
              ⟨some 36, some (34, false), .load true 2 (.t 7)⟩,
              ⟨some 37, some (34, false), .call 89 [.t 35, .t 36]⟩,
              ⟨some 38, some (34, false), .un .not (.t 37)⟩,
              ⟨some 39, none, .pick (.t 34) (.k (.bool true)) (.t 38)⟩])
            (.keep [1, 39]
             (.cond (.t 39)
              (.seq
               (.ops [⟨some 4, none, .mv (.k (.bool false))⟩])
               .ret)
              .skip)))))
         .skip))))
     (.keep [1]
      (.seq
       (.ops [⟨some 41, none, .mv (.t 1)⟩,
         ⟨some 42, none, .call 97 [.t 41]⟩,
         ⟨some 40, none, .mv (.t 42)⟩,
         ⟨some 43, none, .ext (.t 40) 0⟩,
         ⟨some 44, none, .ext (.t 40) 1⟩,
         ⟨some 9, none, .alloc 12 [.int .i64 0, .nils]⟩,
         ⟨none, none, .store 2 (.t 9) (.t 43)⟩,
         ⟨some 10, none, .mv (.t 44)⟩])
       (.keep [1, 9, 10]
        (.seq
         (.seq
          (.ops [⟨some 45, none, .mv (.t 10)⟩,
            ⟨some 46, none, .bin .neq (.t 45) (.k (.int .i64 0))⟩])
          (.cond (.t 46)
           (.seq
            (.ops [⟨some 47, none, .fldA 0 (.t 9)⟩,
              ⟨some 48, none, .load false 1 (.t 47)⟩,
              ⟨some 49, none, .bin .eql (.t 48) (.k (.int .i64 0))⟩,
              ⟨some 50, none, .mv (.t 49)⟩,
              ⟨some 51, some (50, true), .fldA 1 (.t 9)⟩,
              ⟨some 52, some (50, true), .load false 1 (.t 51)⟩,
              ⟨some 53, some (50, true), .lenS (.t 52)⟩,
              ⟨some 54, some (50, true), .bin .eql (.t 53) (.k (.int .i64 0))⟩,
              ⟨some 55, none, .pick (.t 50) (.t 54) (.k (.bool false))⟩,
              ⟨some 56, none, .mv (.t 55)⟩,
              ⟨some 57, some (56, true), .call 86 []⟩,
              ⟨some 58, none, .pick (.t 56) (.t 57) (.k (.bool false))⟩,
              ⟨some 4, none, .mv (.t 58)⟩])
            (.keep [4]
             .ret))
           .skip))
         (.keep [1, 9]
          (.seq
           (.ops [⟨some 60, none, .load true 2 (.t 9)⟩,
             ⟨some 61, none, .call 82 [.t 60]⟩,
             ⟨some 59, none, .mv (.t 61)⟩,
             ⟨some 62, none, .ext (.t 59) 0⟩,
             ⟨some 63, none, .ext (.t 59) 1⟩,
             ⟨some 11, none, .mv (.t 62)⟩,
             ⟨some 12, none, .mv (.t 63)⟩])
           (.keep [1, 11, 12]
            (.seq
             (.ops [⟨some 64, none, .mv (.t 12)⟩,
               ⟨some 65, none, .bin .eql (.t 64) (.k (.int .i64 0))⟩,
               ⟨some 66, none, .mv (.t 65)⟩,
               ⟨some 67, some (66, true), .mv (.t 1)⟩,
               ⟨some 68, some (66, true), .mv (.t 11)⟩,
               ⟨some 69, some (66, true), .call 47 [.t 67, .t 68]⟩,
               ⟨some 70, none, .pick (.t 66) (.t 69) (.k (.bool false))⟩,
               ⟨some 71, none, .mv (.t 70)⟩,
               ⟨some 72, some (71, true), .call 86 []⟩,
               ⟨some 73, none, .pick (.t 71) (.t 72) (.k (.bool false))⟩,
               ⟨some 4, none, .mv (.t 73)⟩])
             (.keep [4]
              .ret))))))))))))) }
structure N99 (R : Env) : Prop where
  o99 : R.Fn 99 c99
  n47 : N47 R
  n81 : N81 R
  n82 : N82 R
  n86 : N86 R
  n89 : N89 R
  n97 : N97 R
end Go.UM

/- Bytes and rows of numbers. -/

namespace Go.UM
open Go.AM

/-- The byte of a number. -/
def u8 (n : Int) : UInt8 := UInt8.ofNat (n % 256).toNat
theorem wr_u8 (n : Int) : wr .u8 n = ((u8 n).toNat : Int) := by
  have h1 : 0 ≤ n % 256 := Int.emod_nonneg _ (by decide)
  have h2 : n % 256 < 256 := Int.emod_lt_of_pos _ (by decide)
  simp only [wr, IntKind.wrap, IntKind.bits, IntKind.signed, u8]
  simp
  omega
theorem u8_mod (n : Int) : u8 (n % 256) = u8 n := by unfold u8; rw [Int.emod_emod_of_dvd n (Int.dvd_refl 256)]
theorem u8_tmod {n : Int} (h : 0 ≤ n) : u8 (n.tmod 256) = u8 n := by rw [Int.tmod_eq_emod_of_nonneg h, u8_mod]
theorem u8_toNat (c : UInt8) : u8 (c.toNat : Int) = c := by
  have := c.toNat_lt
  unfold u8
  rw [show ((c.toNat : Int) % 256).toNat = c.toNat by omega]
  simp

theorem u8_in {n : Int} (h : 0 ≤ n ∧ n ≤ 255) : ((u8 n).toNat : Int) = n := by rw [← wr_u8, wr_in (k := .u8) h]

/-- Bytes, and numbers, as the elements of a slice. -/
def slc8 (l : List UInt8) : List (List AV) := l.map fun c => [.int .u8 c.toNat]
def slcK (k : IntKind) (l : List Int) : List (List AV) := l.map fun x => [.int k x]
@[simp] theorem slc8_nil : slc8 [] = [] := rfl
@[simp] theorem slc8_length (l : List UInt8) : (slc8 l).length = l.length := by simp [slc8]
@[simp] theorem slc8_append (a b : List UInt8) : slc8 (a ++ b) = slc8 a ++ slc8 b := by simp [slc8]
@[simp] theorem slc8_one (n : Int) : [[AV.int .u8 (wr .u8 n)]] = slc8 [u8 n] := by simp [slc8, wr_u8]
@[simp] theorem slcK_nil (k : IntKind) : slcK k [] = [] := rfl
@[simp] theorem slcK_length (k : IntKind) (l : List Int) : (slcK k l).length = l.length := by simp [slcK]
@[simp] theorem slcK_append (k : IntKind) (a b : List Int) : slcK k (a ++ b) = slcK k a ++ slcK k b := by simp [slcK]
theorem slcK_one (k : IntKind) (n : Int) : [[AV.int k n]] = slcK k [n] := rfl
@[simp] theorem slc8_NmL (l : List UInt8) : NmL (slc8 l) := by simp [slc8]
@[simp] theorem slcK_NmL (k : IntKind) (l : List Int) : NmL (slcK k l) := by simp [slcK]
@[simp] theorem slc8_FlL (l : List UInt8) : FlL (slc8 l) := by simp [slc8]
@[simp] theorem slcK_FlL (k : IntKind) (l : List Int) : FlL (slcK k l) := by simp [slcK]
instance {l : List UInt8} : LenOf (slc8 l) l.length := ⟨slc8_length l⟩
instance {k : IntKind} {l : List Int} : LenOf (slcK k l) l.length := ⟨slcK_length k l⟩
@[simp] theorem mem_slc8 {e : List AV} {l : List UInt8} : e ∈ slc8 l ↔ ∃ c, c ∈ l ∧ [AV.int .u8 c.toNat] = e := by simp [slc8]
@[simp] theorem mem_slcK {k : IntKind} {e : List AV} {l : List Int} : e ∈ slcK k l ↔ ∃ c, c ∈ l ∧ [AV.int k c] = e := by simp [slcK]
theorem slc8_take (l : List UInt8) (k : Nat) : (slc8 l).take k = slc8 (l.take k) := by simp [slc8, List.map_take]
theorem slc8_drop (l : List UInt8) (k : Nat) : (slc8 l).drop k = slc8 (l.drop k) := by simp [slc8, List.map_drop]
theorem slcK_take (k' : IntKind) (l : List Int) (k : Nat) : (slcK k' l).take k = slcK k' (l.take k) := by simp [slcK, List.map_take]
theorem slcK_drop (k' : IntKind) (l : List Int) (k : Nat) : (slcK k' l).drop k = slcK k' (l.drop k) := by simp [slcK, List.map_drop]
theorem slc8_inj {a b : List UInt8} (h : slc8 a = slc8 b) : a = b := by
  have := congrArg (List.map fun e : List AV => match e with | [.int _ n] => u8 n | _ => 0) h
  simpa [slc8, List.map_map, Function.comp_def, u8_toNat] using this
theorem get8 {l : List UInt8} {i : Nat} {x : UInt8} (h : l[i]? = some x) {K : List AV → Prop} (k : K [.int .u8 x.toNat]) : EGet (slc8 l) i K := eget_map h k
theorem getK {kk : IntKind} {l : List Int} {i : Nat} {x : Int} (h : l[i]? = some x) {K : List AV → Prop} (k : K [.int kk x]) : EGet (slcK kk l) i K := eget_map h k

theorem take_succ_get {α : Type} {l : List α} {k : Nat} {x : α} (h : l[k]? = some x) : l.take (k + 1) = l.take k ++ [x] := by
  rw [List.take_add_one, h]; rfl

theorem shr_eq {k : IntKind} {x y : Int} (hx : 0 ≤ x) : shrI k x y = x / 2 ^ (min y.toNat k.bits) := by
  unfold shrI
  rw [Int.fdiv_eq_ediv_of_nonneg]
  exact Int.le_of_lt (Int.pow_pos (by decide))
theorem aS8 {s : List UInt8} {K : List UInt8 → Prop} (k : K s) : AStr (slc8 s) K := ⟨⟨s, rfl, k⟩⟩
theorem take_cap {α : Type} (l : List α) (m : Int) : l.take (min (l.length : Int) m).toNat = l.take m.toNat := by
  by_cases h : (l.length : Int) ≤ m
  · rw [show (min (l.length : Int) m).toNat = l.length by omega, List.take_of_length_le (Nat.le_refl _), List.take_of_length_le (by omega)]
  · rw [show (min (l.length : Int) m).toNat = m.toNat by omega]
theorem cap8 (b : List UInt8) (m : Int) : (slc8 b).take (min (b.length : Int) m).toNat = slc8 (b.take m.toNat) := by rw [slc8_take, take_cap]
theorem capK (k : IntKind) (b : List Int) (m : Int) : (slcK k b).take (min (b.length : Int) m).toNat = slcK k (b.take m.toNat) := by rw [slcK_take, take_cap]
instance {l : List UInt8} {k : Nat} : TkOf ((slc8 l).take k) (slc8 (l.take k)) := ⟨slc8_take l k⟩
instance {l : List UInt8} {k : Nat} : TkOf ((slc8 l).drop k) (slc8 (l.drop k)) := ⟨slc8_drop l k⟩
instance {l : List UInt8} {k j : Nat} : TkOf (((slc8 l).take k).drop j) (slc8 ((l.take k).drop j)) := ⟨by rw [slc8_take, slc8_drop]⟩
instance {kk : IntKind} {l : List Int} {k : Nat} : TkOf ((slcK kk l).take k) (slcK kk (l.take k)) := ⟨slcK_take kk l k⟩
instance {kk : IntKind} {l : List Int} {k : Nat} : TkOf ((slcK kk l).drop k) (slcK kk (l.drop k)) := ⟨slcK_drop kk l k⟩
instance {kk : IntKind} {l : List Int} {k j : Nat} : TkOf (((slcK kk l).take k).drop j) (slcK kk ((l.take k).drop j)) := ⟨by rw [slcK_take, slcK_drop]⟩
end Go.UM

/- Rows of three numbers; searching in rows of numbers. -/


namespace Go.UM
open Go.AM
set_option maxRecDepth 4000

/-- Three numbers. -/
structure T3 where
  (a b c : Int)
def t3 (x : T3) : List AV := [.int .i64 x.a, .int .i64 x.b, .int .i64 x.c]
def slc3 (l : List T3) : List (List AV) := l.map t3
@[simp] theorem slc3_nil : slc3 [] = [] := rfl
@[simp] theorem slc3_length (l : List T3) : (slc3 l).length = l.length := by simp [slc3]
@[simp] theorem slc3_append (a b : List T3) : slc3 (a ++ b) = slc3 a ++ slc3 b := by simp [slc3]
@[simp] theorem slc3_NmL (l : List T3) : NmL (slc3 l) := by simp [slc3, t3]
@[simp] theorem slc3_FlL (l : List T3) : FlL (slc3 l) := by simp [slc3, t3]
theorem slc3_take (l : List T3) (k : Nat) : (slc3 l).take k = slc3 (l.take k) := by simp [slc3, List.map_take]
theorem slc3_drop (l : List T3) (k : Nat) : (slc3 l).drop k = slc3 (l.drop k) := by simp [slc3, List.map_drop]
instance {l : List T3} : LenOf (slc3 l) l.length := ⟨slc3_length l⟩
instance {l : List T3} {k : Nat} : TkOf ((slc3 l).take k) (slc3 (l.take k)) := ⟨slc3_take l k⟩
instance {l : List T3} {k : Nat} : TkOf ((slc3 l).drop k) (slc3 (l.drop k)) := ⟨slc3_drop l k⟩

/-- Where a number stands in a row; -1: nowhere. -/
def idx (l : List Int) (x : Int) : Int := if x ∈ l then (l.idxOf x : Int) else -1

theorem idxOf_at {x : Int} : ∀ {l : List Int} {i : Nat}, l[i]? = some x → x ∉ l.take i → l.idxOf x = i
  | [], _, h, _ => by simp at h
  | a :: r, 0, h, _ => by simp at h; simp [h]
  | a :: r, i + 1, h, hn => by
    simp only [List.take_succ_cons, List.mem_cons, not_or] at hn
    rw [List.idxOf_cons]
    have : (a == x) = false := by simpa using fun e => hn.1 e.symm
    rw [this, idxOf_at (by simpa using h) hn.2]
    rfl

theorem index_c {R : Env} (h : N106 R) (l : List Int) (x : Int) (hl : l.length ≤ 1073741824) : R.Pc 106 [.isl 1 (slcK .i64 l), .int .i64 x] (.int .i64 (idx l x)) :=
  h.o106.enter 100 rfl fun X bb hfit hp => by
    repeat ((intro _u; clear _u); first | with_reducible first | refine cT ?_ | refine cF ?_ | refine cA ?_ | refine cB ?_ | refine aLn ?_ | refine cK ?_ | refine aS8 ?_ | refine wI ?_ | refine nD ?_ | refine aX rfl ?_)
    intro _u; clear _u
    refine lPa 100 (fun i : Nat => i ≤ l.length ∧ x ∉ l.take i) (fun i => ⟨[(0, .isl 1 (slcK .i64 l)), (1, .int .i64 x), (7, .int .i64 l.length), (8, .int .i64 i)], [], 0⟩) (fun i => l.length - i) (0) ?_ ?_
    · exact ⟨Nat.zero_le _, by simp⟩
    · intro i hi
      dsimp only
      repeat ((intro _u; clear _u); first | with_reducible first | refine cT ?_ | refine cF ?_ | refine cA ?_ | refine cB ?_ | refine aLn ?_ | refine cK ?_ | refine aS8 ?_ | refine wI ?_ | refine nD ?_ | refine aX rfl ?_)
      intro _u; clear _u
      refine cS (fun h1 => ?_) (fun h1 => ?_)
      · obtain ⟨y, hy⟩ : ∃ u_, l[i]? = some u_ := ⟨_, List.getElem?_eq_getElem (by first | omega | (simp <;> omega))⟩
        repeat ((intro _u; clear _u); first | with_reducible first | refine cT ?_ | refine cF ?_ | refine cA ?_ | refine cB ?_ | refine aLn ?_ | refine cK ?_ | refine aS8 ?_ | refine wI ?_ | refine nD ?_ | refine aX rfl ?_)
        intro _u; clear _u
        refine eget_map hy ?_
        repeat ((intro _u; clear _u); first | with_reducible first | refine cT ?_ | refine cF ?_ | refine cA ?_ | refine cB ?_ | refine aLn ?_ | refine cK ?_ | refine aS8 ?_ | refine wI ?_ | refine nD ?_ | refine aX rfl ?_)
        intro _u; clear _u
        refine cS (fun h2 => ?_) (fun h2 => ?_)
        · subst h2
          repeat ((intro _u; clear _u); first | with_reducible first | refine cT ?_ | refine cF ?_ | refine cA ?_ | refine cB ?_ | refine aLn ?_ | refine cK ?_ | refine aS8 ?_ | refine wI ?_ | refine nD ?_ | refine aX rfl ?_)
          intro _u; clear _u
          refine rT ?_
          all_goals repeat' (first | exact True.intro | refine And.intro ?_ ?_ | (intro _u; clear _u) | with_reducible first | refine eM ?_ ?_ | refine eF ?_ ?_ ?_ | refine eN ?_ | refine eL ?_ ?_ ?_ | refine eA ?_ ?_ | refine IWk.mk ⟨_, hp, rfl⟩ ?_ ?_)
          all_goals first | with_reducible rfl | omega | exact Or.inl (by decide) | (simp; done) | rfl | skip
          unfold idx
          rw [if_pos (List.mem_of_getElem? hy), idxOf_at hy hi.2]
        · repeat ((intro _u; clear _u); first | with_reducible first | refine cT ?_ | refine cF ?_ | refine cA ?_ | refine cB ?_ | refine aLn ?_ | refine cK ?_ | refine aS8 ?_ | refine wI ?_ | refine nD ?_ | refine aX rfl ?_)
          intro _u; clear _u
          refine nXa (i + 1) ?_ ?_
          · refine ⟨by omega, ?_⟩
            rw [take_succ_get hy]
            simp only [List.mem_append, List.mem_singleton, not_or]
            exact ⟨hi.2, h2⟩
          · omega
      · repeat ((intro _u; clear _u); first | with_reducible first | refine cT ?_ | refine cF ?_ | refine cA ?_ | refine cB ?_ | refine aLn ?_ | refine cK ?_ | refine aS8 ?_ | refine wI ?_ | refine nD ?_ | refine aX rfl ?_)
        intro _u; clear _u
        refine rT ?_
        all_goals repeat' (first | exact True.intro | refine And.intro ?_ ?_ | (intro _u; clear _u) | with_reducible first | refine eM ?_ ?_ | refine eF ?_ ?_ ?_ | refine eN ?_ | refine eL ?_ ?_ ?_ | refine eA ?_ ?_ | refine IWk.mk ⟨_, hp, rfl⟩ ?_ ?_)
        all_goals first | with_reducible rfl | omega | exact Or.inl (by decide) | (simp; done) | rfl | skip
        unfold idx
        rw [if_neg]
        rw [← List.take_of_length_le (l := l) (i := i) (by omega)]
        exact hi.2

theorem contains_c {R : Env} (h : N100 R) (l : List Int) (x : Int) (hl : l.length ≤ 1073741824) : R.Pc 100 [.isl 1 (slcK .i64 l), .int .i64 x] (.bool (decide (x ∈ l))) :=
  h.o100.enter 100 rfl fun X bb hfit hp => by
    repeat ((intro _u; clear _u); first | with_reducible first | refine cT ?_ | refine cF ?_ | refine cA ?_ | refine cB ?_ | refine aLn ?_ | refine cK ?_ | refine aS8 ?_ | refine wI ?_ | refine nD ?_ | refine aX rfl ?_)
    intro _u; clear _u
    refine ICall.pure h.n106.o106.hb (index_c h.n106 l x hl) rfl ?_
    repeat ((intro _u; clear _u); first | with_reducible first | refine cT ?_ | refine cF ?_ | refine cA ?_ | refine cB ?_ | refine aLn ?_ | refine cK ?_ | refine aS8 ?_ | refine wI ?_ | refine nD ?_ | refine aX rfl ?_)
    intro _u; clear _u
    refine rT ?_
    all_goals repeat' (first | exact True.intro | refine And.intro ?_ ?_ | (intro _u; clear _u) | with_reducible first | refine eM ?_ ?_ | refine eF ?_ ?_ ?_ | refine eN ?_ | refine eL ?_ ?_ ?_ | refine eA ?_ ?_ | refine IWk.mk ⟨_, hp, rfl⟩ ?_ ?_)
    all_goals first | with_reducible rfl | omega | exact Or.inl (by decide) | (simp; done) | rfl | skip
    unfold idx
    by_cases hx : x ∈ l
    · rw [if_pos hx]; simp [hx]
    · rw [if_neg hx]; simp [hx]
end Go.UM

/- Package codec: what each function hands back. -/


namespace Go.UM
open Go.AM
set_option maxRecDepth 4000

theorem clone8_c {R : Env} (h : N62 R) (l : List UInt8) (hl : l.length ≤ 1073741824) :
    R.Mc 62 [.isl 1 (slc8 l)] [] (.osl 0 l.length) [(0, .arr (R.ty 4) 1 (slc8 l))] 1 :=
  h.o62.enterM 60 0 rfl rfl rfl fun X b hfit hp => by
    repeat ((intro _u; clear _u); first | with_reducible first | refine cT ?_ | refine cF ?_ | refine cA ?_ | refine cB ?_ | refine aLn ?_ | refine cK ?_ | refine aS8 ?_ | refine wI ?_ | refine nD ?_ | refine aX rfl ?_)
    intro _u; clear _u
    refine ANil.mk (fun hn => ?_) ?_
    · have : l = [] := by simpa [slc8] using hn
      subst this
      repeat ((intro _u; clear _u); first | with_reducible first | refine cT ?_ | refine cF ?_ | refine cA ?_ | refine cB ?_ | refine aLn ?_ | refine cK ?_ | refine aS8 ?_ | refine wI ?_ | refine nD ?_ | refine aX rfl ?_)
      intro _u; clear _u
      exact rM [50]
    · repeat ((intro _u; clear _u); first | with_reducible first | refine cT ?_ | refine cF ?_ | refine cA ?_ | refine cB ?_ | refine aLn ?_ | refine cK ?_ | refine aS8 ?_ | refine wI ?_ | refine nD ?_ | refine aX rfl ?_)
      intro _u; clear _u
      exact rM [0]

/-- A number's bytes, and whether they hold it. -/
def enc (w : Nat) (x : Int) : List UInt8 := (List.range w).map fun i => u8 (x / 256 ^ i)
def puts (b : List UInt8) (w : Int) (n : List Int) : List UInt8 × Int :=
  if w < 1 ∨ 8 < w then ([], 2) else if n.any (fun x => decide (256 ^ w.toNat ≤ x)) = true then ([], 3) else (b ++ n.flatMap (enc w.toNat), 0)

theorem flatMap_len (w : Nat) : ∀ l : List Int, (l.flatMap (enc w)).length = w * l.length
  | [] => by simp
  | x :: r => by simp [flatMap_len w r, enc, Nat.mul_add]; omega

theorem put_room {b : List UInt8} {n : List Int} {w : Int} {k : Nat} {i : Nat} {x : Int} (hl : b.length + 8 * n.length ≤ 1073741824) (hw : w ≤ 8) (hw1 : 1 ≤ w) (hk : (k : Int) < n.length) (hi : (i : Int) < w) : (b ++ (n.take k).flatMap (enc w.toNat) ++ enc i x).length + 1 ≤ 1073741824 := by
  have h1 : w.toNat * (n.take k).length ≤ 8 * k := Nat.mul_le_mul (by omega) (by simp; omega)
  simp only [List.length_append, flatMap_len]
  have : (enc i x).length = i := by simp [enc]
  omega

theorem enc_succ (i : Nat) (x : Int) : enc (i + 1) x = enc i x ++ [u8 (x / 256 ^ i)] := by simp [enc, List.range_succ]
@[simp] theorem enc_zero (x : Int) : enc 0 x = [] := rfl
@[simp] theorem enc_length (w : Nat) (x : Int) : (enc w x).length = w := by simp [enc]

theorem shr_enc {x : Int} {i : Nat} (hx : 0 ≤ x) (hi : i < 8) : shrI .u64 x (8 * (i : Int)) = x / 256 ^ i := by
  rw [shr_eq hx]
  have h : (8 * (i : Int)).toNat = 8 * i := by omega
  rw [h, show min (8 * i) (IntKind.bits .u64) = 8 * i by simp [IntKind.bits]; omega, Int.pow_mul]
  rfl

theorem shr_big {x w : Int} (hx : 0 ≤ x) (h1 : 1 ≤ w) (h8 : w < 8) : 0 < shrI .u64 x (8 * w) ↔ 256 ^ w.toNat ≤ x := by
  obtain ⟨i, rfl⟩ : ∃ i : Nat, w = i := ⟨w.toNat, by omega⟩
  rw [shr_enc hx (by omega), Int.toNat_natCast]
  have hp : (0 : Int) < 256 ^ i := Int.pow_pos (by decide)
  constructor
  · intro h
    have := (Int.le_ediv_iff_mul_le hp).1 (show 1 ≤ x / 256 ^ i from h)
    rwa [Int.one_mul] at this
  · intro h
    show 1 ≤ x / 256 ^ i
    exact (Int.le_ediv_iff_mul_le hp).2 (by rw [Int.one_mul]; exact h)

theorem any_take_succ {n : List Int} {k : Nat} {x : Int} {p : Int → Bool} (h : n[k]? = some x) : (n.take (k + 1)).any p = ((n.take k).any p || p x) := by
  rw [take_succ_get h]; simp

theorem puts_bad {b : List UInt8} {w : Int} {n : List Int} {x : Int} (h1 : 1 ≤ w) (h2 : w ≤ 8) (hx : x ∈ n) (h : 256 ^ w.toNat ≤ x) : puts b w n = ([], 3) := by
  unfold puts
  rw [if_neg (by omega), if_pos]
  simp only [List.any_eq_true, decide_eq_true_eq]
  exact ⟨x, hx, h⟩
theorem puts_ok {b : List UInt8} {w : Int} {n : List Int} (h1 : 1 ≤ w) (h2 : w ≤ 8) (h : n.any (fun x => decide (256 ^ w.toNat ≤ x)) = false) : puts b w n = (b ++ n.flatMap (enc w.toNat), 0) := by
  unfold puts
  rw [if_neg (by omega), if_neg (by rw [h]; decide)]


theorem put_c {R : Env} (h : N54 R) (b : List UInt8) (w : Int) (n : List Int) (hl : b.length + 8 * n.length ≤ 1073741824) (hn : ∀ x ∈ n, 0 ≤ x ∧ x ≤ 18446744073709551615) :
    R.Mc 54 [.isl 1 (slc8 b), .int .i64 w, .isl 1 (slcK .u64 n)] [] (.tup [.osl 0 (puts b w n).1.length, .int .i64 (puts b w n).2]) [(0, .arr (R.ty 4) 1 (slc8 (puts b w n).1))] 1 :=
  h.o54.enterM 100 0 rfl rfl rfl fun X bb hfit hp => by
    generalize hq : puts b w n = q
    repeat ((intro _u; clear _u); first | with_reducible first | refine cT ?_ | refine cF ?_ | refine cA ?_ | refine cB ?_ | refine aLn ?_ | refine cK ?_ | refine aS8 ?_ | refine wI ?_ | refine nD ?_ | refine aX rfl ?_)
    intro _u; clear _u
    refine cS (fun h1 => ?_) (fun h1 => ?_)
    · rw [puts, if_pos (.inl h1)] at hq
      subst hq
      repeat ((intro _u; clear _u); first | with_reducible first | refine cT ?_ | refine cF ?_ | refine cA ?_ | refine cB ?_ | refine aLn ?_ | refine cK ?_ | refine aS8 ?_ | refine wI ?_ | refine nD ?_ | refine aX rfl ?_)
      intro _u; clear _u
      exact rM [50]
    · repeat ((intro _u; clear _u); first | with_reducible first | refine cT ?_ | refine cF ?_ | refine cA ?_ | refine cB ?_ | refine aLn ?_ | refine cK ?_ | refine aS8 ?_ | refine wI ?_ | refine nD ?_ | refine aX rfl ?_)
      intro _u; clear _u
      refine cS (fun h2 => ?_) (fun h2 => ?_)
      · rw [puts, if_pos (.inr h2)] at hq
        subst hq
        repeat ((intro _u; clear _u); first | with_reducible first | refine cT ?_ | refine cF ?_ | refine cA ?_ | refine cB ?_ | refine aLn ?_ | refine cK ?_ | refine aS8 ?_ | refine wI ?_ | refine nD ?_ | refine aX rfl ?_)
        intro _u; clear _u
        exact rM [50]
      · repeat ((intro _u; clear _u); first | with_reducible first | refine cT ?_ | refine cF ?_ | refine cA ?_ | refine cB ?_ | refine aLn ?_ | refine cK ?_ | refine aS8 ?_ | refine wI ?_ | refine nD ?_ | refine aX rfl ?_)
        intro _u; clear _u
        refine cM false [] (clone8_c h.n62 b (by omega)) ?_
        repeat ((intro _u; clear _u); first | refine eK ?_ | refine eP ?_)
        repeat ((intro _u; clear _u); first | with_reducible first | refine cT ?_ | refine cF ?_ | refine cA ?_ | refine cB ?_ | refine aLn ?_ | refine cK ?_ | refine aS8 ?_ | refine wI ?_ | refine nD ?_ | refine aX rfl ?_)
        intro _u; clear _u
        refine lPa 100 (fun k : Nat => k ≤ n.length ∧ (n.take k).any (fun x => decide (256 ^ w.toNat ≤ x)) = false) (fun k => ⟨[(1, .int .i64 w), (8, .osl 0 (b ++ (n.take k).flatMap (enc w.toNat)).length), (20, .isl 1 (slcK .u64 n)), (21, .int .i64 n.length), (22, .int .i64 k)], [(0, .arr (R.ty 4) 1 (slc8 (b ++ (n.take k).flatMap (enc w.toNat))))], 1⟩) (fun k => n.length - k) (0) ?_ ?_
        · exact ⟨Nat.zero_le _, by simp⟩
        · intro k hk
          dsimp only
          repeat ((intro _u; clear _u); first | with_reducible first | refine cT ?_ | refine cF ?_ | refine cA ?_ | refine cB ?_ | refine aLn ?_ | refine cK ?_ | refine aS8 ?_ | refine wI ?_ | refine nD ?_ | refine aX rfl ?_)
          intro _u; clear _u
          refine cS (fun h3 => ?_) (fun h3 => ?_)
          · obtain ⟨x, hx⟩ : ∃ u_, n[k]? = some u_ := ⟨_, List.getElem?_eq_getElem (by first | omega | (simp <;> omega))⟩
            repeat ((intro _u; clear _u); first | with_reducible first | refine cT ?_ | refine cF ?_ | refine cA ?_ | refine cB ?_ | refine aLn ?_ | refine cK ?_ | refine aS8 ?_ | refine wI ?_ | refine nD ?_ | refine aX rfl ?_)
            intro _u; clear _u
            refine eget_map hx ?_
            have hxk := hx
            have hx := hn x (List.mem_of_getElem? hxk)
            repeat ((intro _u; clear _u); first | with_reducible first | refine cT ?_ | refine cF ?_ | refine cA ?_ | refine cB ?_ | refine aLn ?_ | refine cK ?_ | refine aS8 ?_ | refine wI ?_ | refine nD ?_ | refine aX rfl ?_)
            intro _u; clear _u
            refine cS (fun h4 => ?_) (fun h4 => ?_)
            · repeat ((intro _u; clear _u); first | with_reducible first | refine cT ?_ | refine cF ?_ | refine cA ?_ | refine cB ?_ | refine aLn ?_ | refine cK ?_ | refine aS8 ?_ | refine wI ?_ | refine nD ?_ | refine aX rfl ?_)
              intro _u; clear _u
              refine cS (fun h5 => ?_) (fun h5 => ?_)
              · rw [puts_bad (by omega) (by omega) (List.mem_of_getElem? hxk) ((shr_big hx.1 (by omega) h4).1 h5)] at hq
                subst hq
                repeat ((intro _u; clear _u); first | with_reducible first | refine cT ?_ | refine cF ?_ | refine cA ?_ | refine cB ?_ | refine aLn ?_ | refine cK ?_ | refine aS8 ?_ | refine wI ?_ | refine nD ?_ | refine aX rfl ?_)
                intro _u; clear _u
                exact rM [50]
              · have hnb : ¬ 256 ^ w.toNat ≤ x := fun hb => absurd ((shr_big hx.1 (by omega) h4).2 hb) (by omega)
                repeat ((intro _u; clear _u); first | with_reducible first | refine cT ?_ | refine cF ?_ | refine cA ?_ | refine cB ?_ | refine aLn ?_ | refine cK ?_ | refine aS8 ?_ | refine wI ?_ | refine nD ?_ | refine aX rfl ?_)
                intro _u; clear _u
                refine lPa 100 (fun i : Nat => (i : Int) ≤ w) (fun i => ⟨[(1, .int .i64 w), (8, .osl 0 (b ++ (n.take k).flatMap (enc w.toNat) ++ enc i x).length), (10, .int .u64 x), (20, .isl 1 (slcK .u64 n)), (21, .int .i64 n.length), (22, .int .i64 k), (35, .int .i64 w), (36, .int .i64 i)], [(0, .arr (R.ty 4) 1 (slc8 (b ++ (n.take k).flatMap (enc w.toNat) ++ enc i x)))], 1⟩) (fun i => w.toNat - i) (0) ?_ ?_
                · show (0 : Int) ≤ w
                  omega
                · intro i hi
                  dsimp only
                  repeat ((intro _u; clear _u); first | with_reducible first | refine cT ?_ | refine cF ?_ | refine cA ?_ | refine cB ?_ | refine aLn ?_ | refine cK ?_ | refine aS8 ?_ | refine wI ?_ | refine nD ?_ | refine aX rfl ?_)
                  intro _u; clear _u
                  refine cS (fun h6 => ?_) (fun h6 => ?_)
                  · repeat ((intro _u; clear _u); first | with_reducible first | refine cT ?_ | refine cF ?_ | refine cA ?_ | refine cB ?_ | refine aLn ?_ | refine cK ?_ | refine aS8 ?_ | refine wI ?_ | refine nD ?_ | refine aX rfl ?_)
                    intro _u; clear _u
                    rw [shr_enc hx.1 (by omega)]
                    refine iwr_any ?_
                    repeat ((intro _u; clear _u); first | with_reducible first | refine cT ?_ | refine cF ?_ | refine cA ?_ | refine cB ?_ | refine aLn ?_ | refine cK ?_ | refine aS8 ?_ | refine wI ?_ | refine nD ?_ | refine aX rfl ?_)
                    intro _u; clear _u
                    refine ⟨by rw [slc8_length]; exact put_room hl h2 h1 h3 h6, ?_⟩
                    repeat ((intro _u; clear _u); first | with_reducible first | refine cT ?_ | refine cF ?_ | refine cA ?_ | refine cB ?_ | refine aLn ?_ | refine cK ?_ | refine aS8 ?_ | refine wI ?_ | refine nD ?_ | refine aX rfl ?_)
                    intro _u; clear _u
                    refine nX (i + 1) ?_ ?_ ⟨_, hp, rfl⟩ ?_ ?_
                    · omega
                    · omega
                    · all_goals repeat' (first | exact True.intro | refine And.intro ?_ ?_ | (intro _u; clear _u) | with_reducible first | refine eM ?_ ?_ | refine eF ?_ ?_ ?_ | refine eN ?_ | refine eL ?_ ?_ ?_ | refine eA ?_ ?_ | refine IWk.mk ⟨_, hp, rfl⟩ ?_ ?_)
                      all_goals first | with_reducible rfl | omega | exact Or.inl (by decide) | (simp; done) | rfl | skip
                    · all_goals repeat' (first | exact True.intro | refine And.intro ?_ ?_ | (intro _u; clear _u) | with_reducible first | refine eM ?_ ?_ | refine eF ?_ ?_ ?_ | refine eN ?_ | refine eL ?_ ?_ ?_ | refine eA ?_ ?_ | refine IWk.mk ⟨_, hp, rfl⟩ ?_ ?_)
                      all_goals first | with_reducible rfl | omega | exact Or.inl (by decide) | (simp; done) | rfl | skip
                      simp [enc_succ]
                  · repeat ((intro _u; clear _u); first | with_reducible first | refine cT ?_ | refine cF ?_ | refine cA ?_ | refine cB ?_ | refine aLn ?_ | refine cK ?_ | refine aS8 ?_ | refine wI ?_ | refine nD ?_ | refine aX rfl ?_)
                    intro _u; clear _u
                    refine nX (k + 1) ?_ ?_ ⟨_, hp, rfl⟩ ?_ ?_
                    · refine ⟨by omega, ?_⟩
                      rw [any_take_succ hxk, hk.2, decide_eq_false hnb]; rfl
                    · omega
                    · all_goals repeat' (first | exact True.intro | refine And.intro ?_ ?_ | (intro _u; clear _u) | with_reducible first | refine eM ?_ ?_ | refine eF ?_ ?_ ?_ | refine eN ?_ | refine eL ?_ ?_ ?_ | refine eA ?_ ?_ | refine IWk.mk ⟨_, hp, rfl⟩ ?_ ?_)
                      all_goals first | with_reducible rfl | omega | exact Or.inl (by decide) | (simp; done) | rfl | skip
                      rw [take_succ_get hxk, show i = w.toNat by omega]; simp
                    · all_goals repeat' (first | exact True.intro | refine And.intro ?_ ?_ | (intro _u; clear _u) | with_reducible first | refine eM ?_ ?_ | refine eF ?_ ?_ ?_ | refine eN ?_ | refine eL ?_ ?_ ?_ | refine eA ?_ ?_ | refine IWk.mk ⟨_, hp, rfl⟩ ?_ ?_)
                      all_goals first | with_reducible rfl | omega | exact Or.inl (by decide) | (simp; done) | rfl | skip
                      rw [take_succ_get hxk, show i = w.toNat by omega]; simp
            · have hnb : ¬ 256 ^ w.toNat ≤ x := by rw [show w.toNat = 8 by omega]; omega
              repeat ((intro _u; clear _u); first | with_reducible first | refine cT ?_ | refine cF ?_ | refine cA ?_ | refine cB ?_ | refine aLn ?_ | refine cK ?_ | refine aS8 ?_ | refine wI ?_ | refine nD ?_ | refine aX rfl ?_)
              intro _u; clear _u
              refine lPa 100 (fun i : Nat => (i : Int) ≤ w) (fun i => ⟨[(1, .int .i64 w), (8, .osl 0 (b ++ (n.take k).flatMap (enc w.toNat) ++ enc i x).length), (10, .int .u64 x), (20, .isl 1 (slcK .u64 n)), (21, .int .i64 n.length), (22, .int .i64 k), (35, .int .i64 w), (36, .int .i64 i)], [(0, .arr (R.ty 4) 1 (slc8 (b ++ (n.take k).flatMap (enc w.toNat) ++ enc i x)))], 1⟩) (fun i => w.toNat - i) (0) ?_ ?_
              · show (0 : Int) ≤ w
                omega
              · intro i hi
                dsimp only
                repeat ((intro _u; clear _u); first | with_reducible first | refine cT ?_ | refine cF ?_ | refine cA ?_ | refine cB ?_ | refine aLn ?_ | refine cK ?_ | refine aS8 ?_ | refine wI ?_ | refine nD ?_ | refine aX rfl ?_)
                intro _u; clear _u
                refine cS (fun h6 => ?_) (fun h6 => ?_)
                · repeat ((intro _u; clear _u); first | with_reducible first | refine cT ?_ | refine cF ?_ | refine cA ?_ | refine cB ?_ | refine aLn ?_ | refine cK ?_ | refine aS8 ?_ | refine wI ?_ | refine nD ?_ | refine aX rfl ?_)
                  intro _u; clear _u
                  rw [shr_enc hx.1 (by omega)]
                  refine iwr_any ?_
                  repeat ((intro _u; clear _u); first | with_reducible first | refine cT ?_ | refine cF ?_ | refine cA ?_ | refine cB ?_ | refine aLn ?_ | refine cK ?_ | refine aS8 ?_ | refine wI ?_ | refine nD ?_ | refine aX rfl ?_)
                  intro _u; clear _u
                  refine ⟨by rw [slc8_length]; exact put_room hl h2 h1 h3 h6, ?_⟩
                  repeat ((intro _u; clear _u); first | with_reducible first | refine cT ?_ | refine cF ?_ | refine cA ?_ | refine cB ?_ | refine aLn ?_ | refine cK ?_ | refine aS8 ?_ | refine wI ?_ | refine nD ?_ | refine aX rfl ?_)
                  intro _u; clear _u
                  refine nX (i + 1) ?_ ?_ ⟨_, hp, rfl⟩ ?_ ?_
                  · omega
                  · omega
                  · all_goals repeat' (first | exact True.intro | refine And.intro ?_ ?_ | (intro _u; clear _u) | with_reducible first | refine eM ?_ ?_ | refine eF ?_ ?_ ?_ | refine eN ?_ | refine eL ?_ ?_ ?_ | refine eA ?_ ?_ | refine IWk.mk ⟨_, hp, rfl⟩ ?_ ?_)
                    all_goals first | with_reducible rfl | omega | exact Or.inl (by decide) | (simp; done) | rfl | skip
                  · all_goals repeat' (first | exact True.intro | refine And.intro ?_ ?_ | (intro _u; clear _u) | with_reducible first | refine eM ?_ ?_ | refine eF ?_ ?_ ?_ | refine eN ?_ | refine eL ?_ ?_ ?_ | refine eA ?_ ?_ | refine IWk.mk ⟨_, hp, rfl⟩ ?_ ?_)
                    all_goals first | with_reducible rfl | omega | exact Or.inl (by decide) | (simp; done) | rfl | skip
                    simp [enc_succ]
                · repeat ((intro _u; clear _u); first | with_reducible first | refine cT ?_ | refine cF ?_ | refine cA ?_ | refine cB ?_ | refine aLn ?_ | refine cK ?_ | refine aS8 ?_ | refine wI ?_ | refine nD ?_ | refine aX rfl ?_)
                  intro _u; clear _u
                  refine nX (k + 1) ?_ ?_ ⟨_, hp, rfl⟩ ?_ ?_
                  · refine ⟨by omega, ?_⟩
                    rw [any_take_succ hxk, hk.2, decide_eq_false hnb]; rfl
                  · omega
                  · all_goals repeat' (first | exact True.intro | refine And.intro ?_ ?_ | (intro _u; clear _u) | with_reducible first | refine eM ?_ ?_ | refine eF ?_ ?_ ?_ | refine eN ?_ | refine eL ?_ ?_ ?_ | refine eA ?_ ?_ | refine IWk.mk ⟨_, hp, rfl⟩ ?_ ?_)
                    all_goals first | with_reducible rfl | omega | exact Or.inl (by decide) | (simp; done) | rfl | skip
                    rw [take_succ_get hxk, show i = w.toNat by omega]; simp
                  · all_goals repeat' (first | exact True.intro | refine And.intro ?_ ?_ | (intro _u; clear _u) | with_reducible first | refine eM ?_ ?_ | refine eF ?_ ?_ ?_ | refine eN ?_ | refine eL ?_ ?_ ?_ | refine eA ?_ ?_ | refine IWk.mk ⟨_, hp, rfl⟩ ?_ ?_)
                    all_goals first | with_reducible rfl | omega | exact Or.inl (by decide) | (simp; done) | rfl | skip
                    rw [take_succ_get hxk, show i = w.toNat by omega]; simp
          · have hkn : n.take k = n := List.take_of_length_le (by omega)
            rw [hkn] at hk ⊢
            rw [puts_ok (by omega) (by omega) hk.2] at hq
            subst hq
            repeat ((intro _u; clear _u); first | with_reducible first | refine cT ?_ | refine cF ?_ | refine cA ?_ | refine cB ?_ | refine aLn ?_ | refine cK ?_ | refine aS8 ?_ | refine wI ?_ | refine nD ?_ | refine aX rfl ?_)
            intro _u; clear _u
            exact rM [0]
end Go.UM

/- Bits of numbers; numbers of bytes. -/

namespace Go.UM
open Go.AM

theorem ofInt_toNat {n : Nat} {x : Int} (h0 : 0 ≤ x) (h1 : x < 2 ^ n) : (BitVec.ofInt n x).toNat = x.toNat := by
  rw [BitVec.toNat_ofInt]
  congr 1
  apply Int.emod_eq_of_lt h0
  exact_mod_cast h1

theorem wr_nat_u64 {x : Nat} (h : x < 18446744073709551616) : wr .u64 (x : Int) = x := wr_in (k := .u64) ⟨by omega, by omega⟩
theorem wr_nat_u8 {x : Nat} (h : x < 256) : wr .u8 (x : Int) = x := wr_in (k := .u8) ⟨by omega, by omega⟩
theorem wr_nat_i64 {x : Nat} (h : x < 9223372036854775808) : wr .i64 (x : Int) = x := wr_in (k := .i64) ⟨by omega, by omega⟩

theorem or_u64 {x y : Int} (hx : 0 ≤ x ∧ x ≤ 18446744073709551615) (hy : 0 ≤ y ∧ y ≤ 18446744073709551615) : bit2 .or .u64 x y = ((x.toNat ||| y.toNat : Nat) : Int) := by
  have e : bit2 .or .u64 x y = wr .u64 ((BitVec.ofInt 64 x ||| BitVec.ofInt 64 y).toNat : Int) := rfl
  rw [e, BitVec.toNat_or, ofInt_toNat hx.1 (by omega), ofInt_toNat hy.1 (by omega)]
  apply wr_nat_u64
  exact Nat.or_lt_two_pow (n := 64) (by omega) (by omega)

theorem and_u64 {x y : Int} (hx : 0 ≤ x ∧ x ≤ 18446744073709551615) (hy : 0 ≤ y ∧ y ≤ 18446744073709551615) : bit2 .and .u64 x y = ((x.toNat &&& y.toNat : Nat) : Int) := by
  have e : bit2 .and .u64 x y = wr .u64 ((BitVec.ofInt 64 x &&& BitVec.ofInt 64 y).toNat : Int) := rfl
  rw [e, BitVec.toNat_and, ofInt_toNat hx.1 (by omega), ofInt_toNat hy.1 (by omega)]
  apply wr_nat_u64
  exact Nat.and_lt_two_pow (n := 64) _ (by omega)

theorem or_i64 {x y : Int} (hx : 0 ≤ x ∧ x ≤ 9223372036854775807) (hy : 0 ≤ y ∧ y ≤ 9223372036854775807) : bit2 .or .i64 x y = ((x.toNat ||| y.toNat : Nat) : Int) := by
  have e : bit2 .or .i64 x y = wr .i64 ((BitVec.ofInt 64 x ||| BitVec.ofInt 64 y).toNat : Int) := rfl
  rw [e, BitVec.toNat_or, ofInt_toNat hx.1 (by omega), ofInt_toNat hy.1 (by omega)]
  apply wr_nat_i64
  exact Nat.or_lt_two_pow (n := 63) (by omega) (by omega)

theorem and_i64 {x y : Int} (hx : 0 ≤ x ∧ x ≤ 9223372036854775807) (hy : 0 ≤ y ∧ y ≤ 9223372036854775807) : bit2 .and .i64 x y = ((x.toNat &&& y.toNat : Nat) : Int) := by
  have e : bit2 .and .i64 x y = wr .i64 ((BitVec.ofInt 64 x &&& BitVec.ofInt 64 y).toNat : Int) := rfl
  rw [e, BitVec.toNat_and, ofInt_toNat hx.1 (by omega), ofInt_toNat hy.1 (by omega)]
  apply wr_nat_i64
  exact Nat.and_lt_two_pow (n := 63) _ (by omega)

/-- The number of bytes, the least first. -/
def le : List UInt8 → Nat
  | [] => 0
  | c :: r => c.toNat + 256 * le r
theorem le_lt : ∀ l : List UInt8, le l < 256 ^ l.length
  | [] => by simp [le]
  | c :: r => by
    have h1 := le_lt r
    have h2 := c.toNat_lt
    simp only [le, List.length_cons, Nat.pow_succ]
    omega
theorem le_append : ∀ (l m : List UInt8), le (l ++ m) = le l + 256 ^ l.length * le m
  | [], m => by simp [le]
  | c :: r, m => by
    simp only [List.cons_append, le, le_append r, List.length_cons, Nat.pow_succ, Nat.mul_add]
    rw [Nat.mul_comm (256 ^ r.length) 256, Nat.mul_assoc]
    omega
theorem le_snoc (l : List UInt8) (c : UInt8) : le (l ++ [c]) = le l + 256 ^ l.length * c.toNat := by
  rw [le_append]; simp [le]

theorem shl_byte {c : Nat} {i : Nat} (hc : c < 256) (hi : i < 8) : shlI .u64 (c : Int) (8 * (i : Int)) = ((256 ^ i * c : Nat) : Int) := by
  have h : (8 * (i : Int)).toNat = 8 * i := by omega
  unfold shlI
  rw [h, show min (8 * i) (IntKind.bits .u64) = 8 * i by simp [IntKind.bits]; omega]
  have hp : (2 : Int) ^ (8 * i) = ((256 ^ i : Nat) : Int) := by rw [Int.pow_mul, Int.natCast_pow]; rfl
  rw [hp]
  have e : (c : Int) * ((256 ^ i : Nat) : Int) = ((256 ^ i * c : Nat) : Int) := by rw [Int.natCast_mul, Int.mul_comm]
  rw [e]
  apply wr_nat_u64
  have h1 : 256 ^ i * c < 256 ^ i * 256 := by
    apply Nat.mul_lt_mul_of_pos_left hc
    exact Nat.pow_pos (by decide)
  have h2 : 256 ^ i * 256 ≤ 256 ^ 8 := by
    rw [← Nat.pow_succ]
    exact Nat.pow_le_pow_right (by decide) (by omega)
  omega

theorem or_byte {n : Nat} {c : Nat} {i : Nat} (hn : n < 256 ^ i) (hc : c < 256) (hi : i < 8) : bit2 .or .u64 (n : Int) (shlI .u64 (c : Int) (8 * (i : Int))) = ((n + 256 ^ i * c : Nat) : Int) := by
  have h2 : 256 ^ i * 256 ≤ 256 ^ 8 := by
    rw [← Nat.pow_succ]
    exact Nat.pow_le_pow_right (by decide) (by omega)
  have h1 : 256 ^ i * c < 256 ^ i * 256 := by
    apply Nat.mul_lt_mul_of_pos_left hc
    exact Nat.pow_pos (by decide)
  rw [shl_byte hc hi, or_u64 ⟨by omega, by omega⟩ ⟨by omega, by omega⟩, Int.toNat_natCast, Int.toNat_natCast, Nat.or_comm]
  congr 1
  have e : 256 ^ i = 2 ^ (8 * i) := by rw [Nat.pow_mul]
  rw [e] at hn ⊢
  rw [← Nat.two_pow_add_eq_or_of_lt hn, Nat.add_comm]
end Go.UM

/- Package codec, part 2: numbers that may be below 0; the reader. -/


namespace Go.UM
open Go.AM
set_option maxRecDepth 4000

def signs (b : List UInt8) (w : Int) (n : List Int) : List UInt8 × Int :=
  if w < 1 ∨ 8 < w then ([], 2) else if n.any (fun x => decide (x < -(256 ^ w.toNat / 2)) || decide (256 ^ w.toNat / 2 ≤ x)) = true then ([], 3) else puts b w (n.map fun x => x % 256 ^ w.toNat)

theorem signs_bad {b : List UInt8} {w : Int} {n : List Int} {x : Int} (h1 : 1 ≤ w) (h2 : w ≤ 8) (hx : x ∈ n) (h : x < -(256 ^ w.toNat / 2) ∨ 256 ^ w.toNat / 2 ≤ x) : signs b w n = ([], 3) := by
  unfold signs
  rw [if_neg (by omega), if_pos]
  simp only [List.any_eq_true, Bool.or_eq_true, decide_eq_true_eq]
  exact ⟨x, hx, h⟩
theorem signs_ok {b : List UInt8} {w : Int} {n : List Int} (h1 : 1 ≤ w) (h2 : w ≤ 8) (h : n.any (fun x => decide (x < -(256 ^ w.toNat / 2)) || decide (256 ^ w.toNat / 2 ≤ x)) = false) : signs b w n = puts b w (n.map fun x => x % 256 ^ w.toNat) := by
  unfold signs
  rw [if_neg (by omega), if_neg (by rw [h]; decide)]

theorem sx_back {w x : Int} (h1 : 1 ≤ w) (h2 : w ≤ 8) (hx : inI .i64 x) : (shrI .i64 (shlI .i64 x (64 - 8 * w)) (64 - 8 * w) = x) ↔ ¬ (x < -(256 ^ w.toNat / 2) ∨ 256 ^ w.toNat / 2 ≤ x) := by
  simp only [inI] at hx
  obtain h | h | h | h | h | h | h | h : w = 1 ∨ w = 2 ∨ w = 3 ∨ w = 4 ∨ w = 5 ∨ w = 6 ∨ w = 7 ∨ w = 8 := by omega
  all_goals subst h
  all_goals (simp only [shrI, shlI, IntKind.wrap, IntKind.bits, IntKind.signed]; simp [Int.fdiv_eq_ediv]; omega)

theorem ux_bits {w x : Int} (h1 : 1 ≤ w) (h2 : w ≤ 8) (hx : inI .i64 x) : shrI .u64 (shlI .u64 (wr .u64 x) (64 - 8 * w)) (64 - 8 * w) = x % 256 ^ w.toNat := by
  simp only [inI] at hx
  obtain h | h | h | h | h | h | h | h : w = 1 ∨ w = 2 ∨ w = 3 ∨ w = 4 ∨ w = 5 ∨ w = 6 ∨ w = 7 ∨ w = 8 := by omega
  all_goals subst h
  all_goals (simp only [wr, shrI, shlI, IntKind.wrap, IntKind.bits, IntKind.signed]; simp [Int.fdiv_eq_ediv] <;> omega)

theorem puts_mod {b : List UInt8} {w : Int} {n : List Int} (h1 : 1 ≤ w) (h2 : w ≤ 8) : ∀ x ∈ n.map (fun x => x % 256 ^ w.toNat), 0 ≤ x ∧ x ≤ 18446744073709551615 := by
  intro x hx
  obtain ⟨y, _, rfl⟩ := List.mem_map.1 hx
  obtain h | h | h | h | h | h | h | h : w = 1 ∨ w = 2 ∨ w = 3 ∨ w = 4 ∨ w = 5 ∨ w = 6 ∨ w = 7 ∨ w = 8 := by omega
  all_goals (subst h; simp <;> omega)

theorem signed_c {R : Env} (h : N71 R) (b : List UInt8) (w : Int) (n : List Int) (hl : b.length + 8 * n.length ≤ 1073741824) (hn : ∀ x ∈ n, inI .i64 x) :
    R.Mc 71 [.isl 1 (slc8 b), .int .i64 w, .isl 1 (slcK .i64 n)] [] (.tup [.osl 0 (signs b w n).1.length, .int .i64 (signs b w n).2]) [(0, .arr (R.ty 4) 1 (slc8 (signs b w n).1))] 1 :=
  h.o71.enterM 100 0 rfl rfl rfl fun X bb hfit hp => by
    generalize hq : signs b w n = q
    repeat ((intro _u; clear _u); first | with_reducible first | refine cT ?_ | refine cF ?_ | refine cA ?_ | refine cB ?_ | refine aLn ?_ | refine cK ?_ | refine aS8 ?_ | refine wI ?_ | refine nD ?_ | refine aX rfl ?_)
    intro _u; clear _u
    refine cS (fun h1 => ?_) (fun h1 => ?_)
    · rw [signs, if_pos (.inl h1)] at hq
      subst hq
      repeat ((intro _u; clear _u); first | with_reducible first | refine cT ?_ | refine cF ?_ | refine cA ?_ | refine cB ?_ | refine aLn ?_ | refine cK ?_ | refine aS8 ?_ | refine wI ?_ | refine nD ?_ | refine aX rfl ?_)
      intro _u; clear _u
      exact rM [50]
    · repeat ((intro _u; clear _u); first | with_reducible first | refine cT ?_ | refine cF ?_ | refine cA ?_ | refine cB ?_ | refine aLn ?_ | refine cK ?_ | refine aS8 ?_ | refine wI ?_ | refine nD ?_ | refine aX rfl ?_)
      intro _u; clear _u
      refine cS (fun h2 => ?_) (fun h2 => ?_)
      · rw [signs, if_pos (.inr h2)] at hq
        subst hq
        repeat ((intro _u; clear _u); first | with_reducible first | refine cT ?_ | refine cF ?_ | refine cA ?_ | refine cB ?_ | refine aLn ?_ | refine cK ?_ | refine aS8 ?_ | refine wI ?_ | refine nD ?_ | refine aX rfl ?_)
        intro _u; clear _u
        exact rM [50]
      · repeat ((intro _u; clear _u); first | with_reducible first | refine cT ?_ | refine cF ?_ | refine cA ?_ | refine cB ?_ | refine aLn ?_ | refine cK ?_ | refine aS8 ?_ | refine wI ?_ | refine nD ?_ | refine aX rfl ?_)
        intro _u; clear _u
        refine lPa 100 (fun k : Nat => k ≤ n.length ∧ (n.take k).any (fun x => decide (x < -(256 ^ w.toNat / 2)) || decide (256 ^ w.toNat / 2 ≤ x)) = false) (fun k => ⟨[(0, .isl 1 (slc8 b)), (1, .int .i64 w), (8, .osl 0 ((n.take k).map fun x => x % 256 ^ w.toNat).length), (18, .isl 1 (slcK .i64 n)), (19, .int .i64 n.length), (20, .int .i64 k)], [(0, .arr (R.ty 6) 1 (slcK .u64 ((n.take k).map fun x => x % 256 ^ w.toNat)))], 1⟩) (fun k => n.length - k) (0) ?_ ?_
        · exact ⟨Nat.zero_le _, by simp⟩
        · intro k hk
          dsimp only
          repeat ((intro _u; clear _u); first | with_reducible first | refine cT ?_ | refine cF ?_ | refine cA ?_ | refine cB ?_ | refine aLn ?_ | refine cK ?_ | refine aS8 ?_ | refine wI ?_ | refine nD ?_ | refine aX rfl ?_)
          intro _u; clear _u
          refine cS (fun h3 => ?_) (fun h3 => ?_)
          · obtain ⟨x, hx⟩ : ∃ u_, n[k]? = some u_ := ⟨_, List.getElem?_eq_getElem (by first | omega | (simp <;> omega))⟩
            repeat ((intro _u; clear _u); first | with_reducible first | refine cT ?_ | refine cF ?_ | refine cA ?_ | refine cB ?_ | refine aLn ?_ | refine cK ?_ | refine aS8 ?_ | refine wI ?_ | refine nD ?_ | refine aX rfl ?_)
            intro _u; clear _u
            refine eget_map hx ?_
            have hxk := hx
            have hx := hn x (List.mem_of_getElem? hxk)
            have hsx := sx_back (by omega) h2 hx
            repeat ((intro _u; clear _u); first | with_reducible first | refine cT ?_ | refine cF ?_ | refine cA ?_ | refine cB ?_ | refine aLn ?_ | refine cK ?_ | refine aS8 ?_ | refine wI ?_ | refine nD ?_ | refine aX rfl ?_)
            intro _u; clear _u
            refine cS (fun h4 => ?_) (fun h4 => ?_)
            · rw [signs_bad (by omega) (by omega) (List.mem_of_getElem? hxk) (Decidable.not_not.1 fun hb => h4 (hsx.2 hb))] at hq
              subst hq
              repeat ((intro _u; clear _u); first | with_reducible first | refine cT ?_ | refine cF ?_ | refine cA ?_ | refine cB ?_ | refine aLn ?_ | refine cK ?_ | refine aS8 ?_ | refine wI ?_ | refine nD ?_ | refine aX rfl ?_)
              intro _u; clear _u
              exact rM [50]
            · repeat ((intro _u; clear _u); first | with_reducible first | refine cT ?_ | refine cF ?_ | refine cA ?_ | refine cB ?_ | refine aLn ?_ | refine cK ?_ | refine aS8 ?_ | refine wI ?_ | refine nD ?_ | refine aX rfl ?_)
              intro _u; clear _u
              refine iwr_any ?_
              repeat ((intro _u; clear _u); first | with_reducible first | refine cT ?_ | refine cF ?_ | refine cA ?_ | refine cB ?_ | refine aLn ?_ | refine cK ?_ | refine aS8 ?_ | refine wI ?_ | refine nD ?_ | refine aX rfl ?_)
              intro _u; clear _u
              rw [ux_bits (by omega) h2 hx]
              refine nX (k + 1) ?_ ?_ ⟨_, hp, rfl⟩ ?_ ?_
              · refine ⟨by omega, ?_⟩
                rw [any_take_succ hxk, hk.2]
                have := hsx.1 h4
                simp only [Bool.false_or, Bool.or_eq_false_iff, decide_eq_false_iff_not]
                omega
              · omega
              · all_goals repeat' (first | exact True.intro | refine And.intro ?_ ?_ | (intro _u; clear _u) | with_reducible first | refine eM ?_ ?_ | refine eF ?_ ?_ ?_ | refine eN ?_ | refine eL ?_ ?_ ?_ | refine eA ?_ ?_ | refine IWk.mk ⟨_, hp, rfl⟩ ?_ ?_)
                all_goals first | with_reducible rfl | omega | exact Or.inl (by decide) | (simp; done) | rfl | skip
                rw [take_succ_get hxk]; simp
              · all_goals repeat' (first | exact True.intro | refine And.intro ?_ ?_ | (intro _u; clear _u) | with_reducible first | refine eM ?_ ?_ | refine eF ?_ ?_ ?_ | refine eN ?_ | refine eL ?_ ?_ ?_ | refine eA ?_ ?_ | refine IWk.mk ⟨_, hp, rfl⟩ ?_ ?_)
                all_goals first | with_reducible rfl | omega | exact Or.inl (by decide) | (simp; done) | rfl | skip
                rw [take_succ_get hxk]; simp [slcK]
          · have hkn : n.take k = n := List.take_of_length_le (by omega)
            rw [hkn] at hk ⊢
            rw [signs_ok (by omega) (by omega) hk.2] at hq
            subst hq
            repeat ((intro _u; clear _u); first | with_reducible first | refine cT ?_ | refine cF ?_ | refine cA ?_ | refine cB ?_ | refine aLn ?_ | refine cK ?_ | refine aS8 ?_ | refine wI ?_ | refine nD ?_ | refine aX rfl ?_)
            intro _u; clear _u
            refine cM true [] (put_c h.n54 b w (n.map fun x => x % 256 ^ w.toNat) (by simpa using hl) (puts_mod (b := b) (by omega) h2)) ?_
            repeat ((intro _u; clear _u); first | refine eK ?_ | refine eP ?_)
            repeat ((intro _u; clear _u); first | with_reducible first | refine cT ?_ | refine cF ?_ | refine cA ?_ | refine cB ?_ | refine aLn ?_ | refine cK ?_ | refine aS8 ?_ | refine wI ?_ | refine nD ?_ | refine aX rfl ?_)
            intro _u; clear _u
            exact rM [1]
/-! ### The reader -/
structure Rd where
  l : List UInt8
  e : Int
  made : Bool
def Rd.row (r : Rd) : List AV := [.isl 1 (slc8 r.l), .int .i64 r.e, .bool r.made]
def Rd.off (r : Rd) : Bool := !r.made || decide (r.e ≠ 0)
/-- What is taken, and what is left. -/
def Rd.take (r : Rd) (n : Int) : List UInt8 × Rd :=
  if r.made = false ∨ r.e ≠ 0 then ([], r) else if n < 0 then ([], { r with e := 2 }) else if (r.l.length : Int) < n then ([], { r with e := 4 }) else (r.l.take n.toNat, { r with l := r.l.drop n.toNat })
def rdM (R : Env) (r : Rd) : IMem := [(0, .var (R.ty 9) r.row)]

theorem none_c {R : Env} (h : N64 R) (r : Rd) : R.Mc 64 [.loc 0 1 0 0] (rdM R r) (.bool (!r.made)) (rdM R r) 1 :=
  h.o64.enterM 60 1 rfl rfl rfl fun X bb hfit hp => by
    repeat ((intro _u; clear _u); first | with_reducible first | refine cT ?_ | refine cF ?_ | refine cA ?_ | refine cB ?_ | refine aLn ?_ | refine cK ?_ | refine aS8 ?_ | refine wI ?_ | refine nD ?_ | refine aX rfl ?_)
    intro _u; clear _u
    exact rM [0]
theorem none_n {R : Env} (h : N64 R) : R.Pc 64 [.nilp] (.bool true) :=
  h.o64.enter 60 rfl fun X bb hfit hp => by
    repeat ((intro _u; clear _u); first | with_reducible first | refine cT ?_ | refine cF ?_ | refine cA ?_ | refine cB ?_ | refine aLn ?_ | refine cK ?_ | refine aS8 ?_ | refine wI ?_ | refine nD ?_ | refine aX rfl ?_)
    intro _u; clear _u
    exact rT

theorem new_c {R : Env} (h : N56 R) (l : List UInt8) (hl : l.length ≤ 1073741824) : R.Mc 56 [.isl 1 (slc8 l)] [] (.loc 0 1 0 0) (rdM R ⟨l, 0, true⟩) 1 :=
  h.o56.enterM 60 0 rfl rfl rfl fun X bb hfit hp => by
    repeat ((intro _u; clear _u); first | with_reducible first | refine cT ?_ | refine cF ?_ | refine cA ?_ | refine cB ?_ | refine aLn ?_ | refine cK ?_ | refine aS8 ?_ | refine wI ?_ | refine nD ?_ | refine aX rfl ?_)
    intro _u; clear _u
    refine cM false [] (clone8_c h.n62 l hl) ?_
    repeat ((intro _u; clear _u); first | refine eK ?_ | refine eP ?_)
    repeat ((intro _u; clear _u); first | with_reducible first | refine cT ?_ | refine cF ?_ | refine cA ?_ | refine cB ?_ | refine aLn ?_ | refine cK ?_ | refine aS8 ?_ | refine wI ?_ | refine nD ?_ | refine aX rfl ?_)
    intro _u; clear _u
    exact rM [1]

theorem take_c {R : Env} (h : N59 R) (r : Rd) (n : Int) : R.Mc 59 [.loc 0 1 0 0, .int .i64 n] (rdM R r) (.isl 1 (slc8 (r.take n).1)) (rdM R (r.take n).2) 1 :=
  h.o59.enterM 60 1 rfl rfl rfl fun X bb hfit hp => by
    repeat ((intro _u; clear _u); first | with_reducible first | refine cT ?_ | refine cF ?_ | refine cA ?_ | refine cB ?_ | refine aLn ?_ | refine cK ?_ | refine aS8 ?_ | refine wI ?_ | refine nD ?_ | refine aX rfl ?_)
    intro _u; clear _u
    refine cM false [0] (none_c h.n64 r) ?_
    repeat ((intro _u; clear _u); first | refine eK ?_ | refine eP ?_)
    generalize hq : r.take n = q
    cases hm : r.made with
    | false =>
      rw [Rd.take, if_pos (.inl hm)] at hq
      subst hq
      repeat ((intro _u; clear _u); first | with_reducible first | refine cT ?_ | refine cF ?_ | refine cA ?_ | refine cB ?_ | refine aLn ?_ | refine cK ?_ | refine aS8 ?_ | refine wI ?_ | refine nD ?_ | refine aX rfl ?_)
      intro _u; clear _u
      exact rM [0]
    | true =>
    repeat ((intro _u; clear _u); first | with_reducible first | refine cT ?_ | refine cF ?_ | refine cA ?_ | refine cB ?_ | refine aLn ?_ | refine cK ?_ | refine aS8 ?_ | refine wI ?_ | refine nD ?_ | refine aX rfl ?_)
    intro _u; clear _u
    refine cS (fun h1 => ?_) (fun h1 => ?_)
    · rw [Rd.take, if_pos (.inr (by simpa using h1))] at hq
      subst hq
      repeat ((intro _u; clear _u); first | with_reducible first | refine cT ?_ | refine cF ?_ | refine cA ?_ | refine cB ?_ | refine aLn ?_ | refine cK ?_ | refine aS8 ?_ | refine wI ?_ | refine nD ?_ | refine aX rfl ?_)
      intro _u; clear _u
      exact rM [0]
    · have h0 : ¬ (r.made = false ∨ r.e ≠ 0) := by simp [hm]; simpa using h1
      repeat ((intro _u; clear _u); first | with_reducible first | refine cT ?_ | refine cF ?_ | refine cA ?_ | refine cB ?_ | refine aLn ?_ | refine cK ?_ | refine aS8 ?_ | refine wI ?_ | refine nD ?_ | refine aX rfl ?_)
      intro _u; clear _u
      refine cS (fun h2 => ?_) (fun h2 => ?_)
      · rw [Rd.take, if_neg h0, if_pos h2] at hq
        subst hq
        repeat ((intro _u; clear _u); first | with_reducible first | refine cT ?_ | refine cF ?_ | refine cA ?_ | refine cB ?_ | refine aLn ?_ | refine cK ?_ | refine aS8 ?_ | refine wI ?_ | refine nD ?_ | refine aX rfl ?_)
        intro _u; clear _u
        exact rM [0]
      · repeat ((intro _u; clear _u); first | with_reducible first | refine cT ?_ | refine cF ?_ | refine cA ?_ | refine cB ?_ | refine aLn ?_ | refine cK ?_ | refine aS8 ?_ | refine wI ?_ | refine nD ?_ | refine aX rfl ?_)
        intro _u; clear _u
        refine cS (fun h3 => ?_) (fun h3 => ?_)
        · rw [Rd.take, if_neg h0, if_neg (by omega), if_pos (by simpa using h3)] at hq
          subst hq
          repeat ((intro _u; clear _u); first | with_reducible first | refine cT ?_ | refine cF ?_ | refine cA ?_ | refine cB ?_ | refine aLn ?_ | refine cK ?_ | refine aS8 ?_ | refine wI ?_ | refine nD ?_ | refine aX rfl ?_)
          intro _u; clear _u
          exact rM [0]
        · rw [Rd.take, if_neg h0, if_neg (by omega), if_neg (by simpa using h3)] at hq
          subst hq
          repeat ((intro _u; clear _u); first | with_reducible first | refine cT ?_ | refine cF ?_ | refine cA ?_ | refine cB ?_ | refine aLn ?_ | refine cK ?_ | refine aS8 ?_ | refine wI ?_ | refine nD ?_ | refine aX rfl ?_)
          intro _u; clear _u
          refine asub_eq (by exact slc8_take _ _) ?_
          repeat ((intro _u; clear _u); first | with_reducible first | refine cT ?_ | refine cF ?_ | refine cA ?_ | refine cB ?_ | refine aLn ?_ | refine cK ?_ | refine aS8 ?_ | refine wI ?_ | refine nD ?_ | refine aX rfl ?_)
          intro _u; clear _u
          refine asub_eq (by exact slc8_drop _ _) ?_
          repeat ((intro _u; clear _u); first | with_reducible first | refine cT ?_ | refine cF ?_ | refine cA ?_ | refine cB ?_ | refine aLn ?_ | refine cK ?_ | refine aS8 ?_ | refine wI ?_ | refine nD ?_ | refine aX rfl ?_)
          intro _u; clear _u
          exact rM [0]

/-- A number that is read. -/
def Rd.num (r : Rd) (w : Int) : Nat × Rd := let t := r.take (if w < 1 ∨ 8 < w then -1 else w); (le t.1, t.2)
theorem take_len (r : Rd) (w : Int) (h : w ≤ 8) : (r.take w).1.length ≤ 8 := by
  unfold Rd.take
  split
  · simp
  · split
    · simp
    · split
      · simp
      · simp only [List.length_take]
        omega


theorem num_c {R : Env} (h : N57 R) (r : Rd) (w : Int) : R.Mc 57 [.loc 0 1 0 0, .int .i64 w] (rdM R r) (.int .u64 (r.num w).1) (rdM R (r.num w).2) 1 :=
  h.o57.enterM 100 1 rfl rfl rfl fun X bb hfit hp => by
    have e1 : w < 1 ∨ 8 < w → r.num w = (le (r.take (-1)).1, (r.take (-1)).2) := fun hw => by unfold Rd.num; rw [if_pos hw]
    have e2 : ¬ (w < 1 ∨ 8 < w) → r.num w = (le (r.take w).1, (r.take w).2) := fun hw => by unfold Rd.num; rw [if_neg hw]
    generalize hq : r.num w = q at e1 e2 ⊢
    repeat ((intro _u; clear _u); first | with_reducible first | refine cT ?_ | refine cF ?_ | refine cA ?_ | refine cB ?_ | refine aLn ?_ | refine cK ?_ | refine aS8 ?_ | refine wI ?_ | refine nD ?_ | refine aX rfl ?_)
    intro _u; clear _u
    refine cS (fun h1 => ?_) (fun h1 => ?_)
    · rw [e1 (.inl h1)]
      repeat ((intro _u; clear _u); first | with_reducible first | refine cT ?_ | refine cF ?_ | refine cA ?_ | refine cB ?_ | refine aLn ?_ | refine cK ?_ | refine aS8 ?_ | refine wI ?_ | refine nD ?_ | refine aX rfl ?_)
      intro _u; clear _u
      refine cM false [0] (take_c h.n59 r (-1)) ?_
      repeat ((intro _u; clear _u); first | refine eK ?_ | refine eP ?_)
      have hlen := take_len r (-1) (by decide)
      generalize r.take (-1) = t at hlen ⊢
      repeat ((intro _u; clear _u); first | with_reducible first | refine cT ?_ | refine cF ?_ | refine cA ?_ | refine cB ?_ | refine aLn ?_ | refine cK ?_ | refine aS8 ?_ | refine wI ?_ | refine nD ?_ | refine aX rfl ?_)
      intro _u; clear _u
      refine lPa 100 (fun i : Nat => i ≤ t.1.length) (fun i => ⟨[(5, .int .u64 (le (t.1.take i))), (16, .isl 1 (slc8 t.1)), (17, .int .i64 t.1.length), (18, .int .i64 i)], rdM R t.2, 1⟩) (fun i => t.1.length - i) (0) ?_ ?_
      · exact Nat.zero_le _
      · intro i hi
        dsimp only
        repeat ((intro _u; clear _u); first | with_reducible first | refine cT ?_ | refine cF ?_ | refine cA ?_ | refine cB ?_ | refine aLn ?_ | refine cK ?_ | refine aS8 ?_ | refine wI ?_ | refine nD ?_ | refine aX rfl ?_)
        intro _u; clear _u
        refine cS (fun h5 => ?_) (fun h5 => ?_)
        · obtain ⟨x, hx⟩ : ∃ u_, t.1[i]? = some u_ := ⟨_, List.getElem?_eq_getElem (by first | omega | (simp <;> omega))⟩
          repeat ((intro _u; clear _u); first | with_reducible first | refine cT ?_ | refine cF ?_ | refine cA ?_ | refine cB ?_ | refine aLn ?_ | refine cK ?_ | refine aS8 ?_ | refine wI ?_ | refine nD ?_ | refine aX rfl ?_)
          intro _u; clear _u
          refine eget_map hx ?_
          repeat ((intro _u; clear _u); first | with_reducible first | refine cT ?_ | refine cF ?_ | refine cA ?_ | refine cB ?_ | refine aLn ?_ | refine cK ?_ | refine aS8 ?_ | refine wI ?_ | refine nD ?_ | refine aX rfl ?_)
          intro _u; clear _u
          refine iwr_in (k := .u64) (by have := x.toNat_lt; simp only [inI]; omega) ?_
          repeat ((intro _u; clear _u); first | with_reducible first | refine cT ?_ | refine cF ?_ | refine cA ?_ | refine cB ?_ | refine aLn ?_ | refine cK ?_ | refine aS8 ?_ | refine wI ?_ | refine nD ?_ | refine aX rfl ?_)
          intro _u; clear _u
          have hil : (t.1.take i).length = i := by simp; omega
          have hle := le_lt (t.1.take i)
          rw [hil] at hle
          rw [or_byte hle x.toNat_lt (by omega)]
          refine nX (i + 1) ?_ ?_ ⟨_, hp, rfl⟩ ?_ ?_
          · omega
          · omega
          · all_goals repeat' (first | exact True.intro | refine And.intro ?_ ?_ | (intro _u; clear _u) | with_reducible first | refine eM ?_ ?_ | refine eF ?_ ?_ ?_ | refine eN ?_ | refine eL ?_ ?_ ?_ | refine eA ?_ ?_ | refine IWk.mk ⟨_, hp, rfl⟩ ?_ ?_)
            all_goals first | with_reducible rfl | omega | exact Or.inl (by decide) | (simp; done) | rfl | skip
            rw [take_succ_get hx, le_snoc, hil]
          · all_goals repeat' (first | exact True.intro | refine And.intro ?_ ?_ | (intro _u; clear _u) | with_reducible first | refine eM ?_ ?_ | refine eF ?_ ?_ ?_ | refine eN ?_ | refine eL ?_ ?_ ?_ | refine eA ?_ ?_ | refine IWk.mk ⟨_, hp, rfl⟩ ?_ ?_)
            all_goals first | with_reducible rfl | omega | exact Or.inl (by decide) | (simp; done) | rfl | skip
        · have hti : t.1.take i = t.1 := List.take_of_length_le (by omega)
          rw [hti]
          repeat ((intro _u; clear _u); first | with_reducible first | refine cT ?_ | refine cF ?_ | refine cA ?_ | refine cB ?_ | refine aLn ?_ | refine cK ?_ | refine aS8 ?_ | refine wI ?_ | refine nD ?_ | refine aX rfl ?_)
          intro _u; clear _u
          exact rM [0]
    · repeat ((intro _u; clear _u); first | with_reducible first | refine cT ?_ | refine cF ?_ | refine cA ?_ | refine cB ?_ | refine aLn ?_ | refine cK ?_ | refine aS8 ?_ | refine wI ?_ | refine nD ?_ | refine aX rfl ?_)
      intro _u; clear _u
      refine cS (fun h2 => ?_) (fun h2 => ?_)
      · rw [e1 (.inr h2)]
        repeat ((intro _u; clear _u); first | with_reducible first | refine cT ?_ | refine cF ?_ | refine cA ?_ | refine cB ?_ | refine aLn ?_ | refine cK ?_ | refine aS8 ?_ | refine wI ?_ | refine nD ?_ | refine aX rfl ?_)
        intro _u; clear _u
        refine cM false [0] (take_c h.n59 r (-1)) ?_
        repeat ((intro _u; clear _u); first | refine eK ?_ | refine eP ?_)
        have hlen := take_len r (-1) (by decide)
        generalize r.take (-1) = t at hlen ⊢
        repeat ((intro _u; clear _u); first | with_reducible first | refine cT ?_ | refine cF ?_ | refine cA ?_ | refine cB ?_ | refine aLn ?_ | refine cK ?_ | refine aS8 ?_ | refine wI ?_ | refine nD ?_ | refine aX rfl ?_)
        intro _u; clear _u
        refine lPa 100 (fun i : Nat => i ≤ t.1.length) (fun i => ⟨[(5, .int .u64 (le (t.1.take i))), (16, .isl 1 (slc8 t.1)), (17, .int .i64 t.1.length), (18, .int .i64 i)], rdM R t.2, 1⟩) (fun i => t.1.length - i) (0) ?_ ?_
        · exact Nat.zero_le _
        · intro i hi
          dsimp only
          repeat ((intro _u; clear _u); first | with_reducible first | refine cT ?_ | refine cF ?_ | refine cA ?_ | refine cB ?_ | refine aLn ?_ | refine cK ?_ | refine aS8 ?_ | refine wI ?_ | refine nD ?_ | refine aX rfl ?_)
          intro _u; clear _u
          refine cS (fun h5 => ?_) (fun h5 => ?_)
          · obtain ⟨x, hx⟩ : ∃ u_, t.1[i]? = some u_ := ⟨_, List.getElem?_eq_getElem (by first | omega | (simp <;> omega))⟩
            repeat ((intro _u; clear _u); first | with_reducible first | refine cT ?_ | refine cF ?_ | refine cA ?_ | refine cB ?_ | refine aLn ?_ | refine cK ?_ | refine aS8 ?_ | refine wI ?_ | refine nD ?_ | refine aX rfl ?_)
            intro _u; clear _u
            refine eget_map hx ?_
            repeat ((intro _u; clear _u); first | with_reducible first | refine cT ?_ | refine cF ?_ | refine cA ?_ | refine cB ?_ | refine aLn ?_ | refine cK ?_ | refine aS8 ?_ | refine wI ?_ | refine nD ?_ | refine aX rfl ?_)
            intro _u; clear _u
            refine iwr_in (k := .u64) (by have := x.toNat_lt; simp only [inI]; omega) ?_
            repeat ((intro _u; clear _u); first | with_reducible first | refine cT ?_ | refine cF ?_ | refine cA ?_ | refine cB ?_ | refine aLn ?_ | refine cK ?_ | refine aS8 ?_ | refine wI ?_ | refine nD ?_ | refine aX rfl ?_)
            intro _u; clear _u
            have hil : (t.1.take i).length = i := by simp; omega
            have hle := le_lt (t.1.take i)
            rw [hil] at hle
            rw [or_byte hle x.toNat_lt (by omega)]
            refine nX (i + 1) ?_ ?_ ⟨_, hp, rfl⟩ ?_ ?_
            · omega
            · omega
            · all_goals repeat' (first | exact True.intro | refine And.intro ?_ ?_ | (intro _u; clear _u) | with_reducible first | refine eM ?_ ?_ | refine eF ?_ ?_ ?_ | refine eN ?_ | refine eL ?_ ?_ ?_ | refine eA ?_ ?_ | refine IWk.mk ⟨_, hp, rfl⟩ ?_ ?_)
              all_goals first | with_reducible rfl | omega | exact Or.inl (by decide) | (simp; done) | rfl | skip
              rw [take_succ_get hx, le_snoc, hil]
            · all_goals repeat' (first | exact True.intro | refine And.intro ?_ ?_ | (intro _u; clear _u) | with_reducible first | refine eM ?_ ?_ | refine eF ?_ ?_ ?_ | refine eN ?_ | refine eL ?_ ?_ ?_ | refine eA ?_ ?_ | refine IWk.mk ⟨_, hp, rfl⟩ ?_ ?_)
              all_goals first | with_reducible rfl | omega | exact Or.inl (by decide) | (simp; done) | rfl | skip
          · have hti : t.1.take i = t.1 := List.take_of_length_le (by omega)
            rw [hti]
            repeat ((intro _u; clear _u); first | with_reducible first | refine cT ?_ | refine cF ?_ | refine cA ?_ | refine cB ?_ | refine aLn ?_ | refine cK ?_ | refine aS8 ?_ | refine wI ?_ | refine nD ?_ | refine aX rfl ?_)
            intro _u; clear _u
            exact rM [0]
      · rw [e2 (by omega)]
        repeat ((intro _u; clear _u); first | with_reducible first | refine cT ?_ | refine cF ?_ | refine cA ?_ | refine cB ?_ | refine aLn ?_ | refine cK ?_ | refine aS8 ?_ | refine wI ?_ | refine nD ?_ | refine aX rfl ?_)
        intro _u; clear _u
        refine cM false [0] (take_c h.n59 r w) ?_
        repeat ((intro _u; clear _u); first | refine eK ?_ | refine eP ?_)
        have hlen := take_len r w h2
        generalize r.take w = t at hlen ⊢
        repeat ((intro _u; clear _u); first | with_reducible first | refine cT ?_ | refine cF ?_ | refine cA ?_ | refine cB ?_ | refine aLn ?_ | refine cK ?_ | refine aS8 ?_ | refine wI ?_ | refine nD ?_ | refine aX rfl ?_)
        intro _u; clear _u
        refine lPa 100 (fun i : Nat => i ≤ t.1.length) (fun i => ⟨[(5, .int .u64 (le (t.1.take i))), (16, .isl 1 (slc8 t.1)), (17, .int .i64 t.1.length), (18, .int .i64 i)], rdM R t.2, 1⟩) (fun i => t.1.length - i) (0) ?_ ?_
        · exact Nat.zero_le _
        · intro i hi
          dsimp only
          repeat ((intro _u; clear _u); first | with_reducible first | refine cT ?_ | refine cF ?_ | refine cA ?_ | refine cB ?_ | refine aLn ?_ | refine cK ?_ | refine aS8 ?_ | refine wI ?_ | refine nD ?_ | refine aX rfl ?_)
          intro _u; clear _u
          refine cS (fun h5 => ?_) (fun h5 => ?_)
          · obtain ⟨x, hx⟩ : ∃ u_, t.1[i]? = some u_ := ⟨_, List.getElem?_eq_getElem (by first | omega | (simp <;> omega))⟩
            repeat ((intro _u; clear _u); first | with_reducible first | refine cT ?_ | refine cF ?_ | refine cA ?_ | refine cB ?_ | refine aLn ?_ | refine cK ?_ | refine aS8 ?_ | refine wI ?_ | refine nD ?_ | refine aX rfl ?_)
            intro _u; clear _u
            refine eget_map hx ?_
            repeat ((intro _u; clear _u); first | with_reducible first | refine cT ?_ | refine cF ?_ | refine cA ?_ | refine cB ?_ | refine aLn ?_ | refine cK ?_ | refine aS8 ?_ | refine wI ?_ | refine nD ?_ | refine aX rfl ?_)
            intro _u; clear _u
            refine iwr_in (k := .u64) (by have := x.toNat_lt; simp only [inI]; omega) ?_
            repeat ((intro _u; clear _u); first | with_reducible first | refine cT ?_ | refine cF ?_ | refine cA ?_ | refine cB ?_ | refine aLn ?_ | refine cK ?_ | refine aS8 ?_ | refine wI ?_ | refine nD ?_ | refine aX rfl ?_)
            intro _u; clear _u
            have hil : (t.1.take i).length = i := by simp; omega
            have hle := le_lt (t.1.take i)
            rw [hil] at hle
            rw [or_byte hle x.toNat_lt (by omega)]
            refine nX (i + 1) ?_ ?_ ⟨_, hp, rfl⟩ ?_ ?_
            · omega
            · omega
            · all_goals repeat' (first | exact True.intro | refine And.intro ?_ ?_ | (intro _u; clear _u) | with_reducible first | refine eM ?_ ?_ | refine eF ?_ ?_ ?_ | refine eN ?_ | refine eL ?_ ?_ ?_ | refine eA ?_ ?_ | refine IWk.mk ⟨_, hp, rfl⟩ ?_ ?_)
              all_goals first | with_reducible rfl | omega | exact Or.inl (by decide) | (simp; done) | rfl | skip
              rw [take_succ_get hx, le_snoc, hil]
            · all_goals repeat' (first | exact True.intro | refine And.intro ?_ ?_ | (intro _u; clear _u) | with_reducible first | refine eM ?_ ?_ | refine eF ?_ ?_ ?_ | refine eN ?_ | refine eL ?_ ?_ ?_ | refine eA ?_ ?_ | refine IWk.mk ⟨_, hp, rfl⟩ ?_ ?_)
              all_goals first | with_reducible rfl | omega | exact Or.inl (by decide) | (simp; done) | rfl | skip
          · have hti : t.1.take i = t.1 := List.take_of_length_le (by omega)
            rw [hti]
            repeat ((intro _u; clear _u); first | with_reducible first | refine cT ?_ | refine cF ?_ | refine cA ?_ | refine cB ?_ | refine aLn ?_ | refine cK ?_ | refine aS8 ?_ | refine wI ?_ | refine nD ?_ | refine aX rfl ?_)
            intro _u; clear _u
            exact rM [0]
/-- A number below 0 is told so. -/
def sx (w : Int) (n : Nat) : Int := if 2 * n < 256 ^ w.toNat then n else n - 256 ^ w.toNat
def Rd.int (r : Rd) (w : Int) : Int × Rd := (if w < 1 ∨ 8 < w then 0 else sx w (r.num w).1, (r.num w).2)

theorem num_lt (r : Rd) {w : Int} (h1 : 1 ≤ w) (h2 : w ≤ 8) : (r.num w).1 < 256 ^ w.toNat := by
  unfold Rd.num
  rw [if_neg (by omega)]
  have h3 := le_lt (r.take w).1
  have h4 : (r.take w).1.length ≤ w.toNat := by
    unfold Rd.take
    split
    · simp
    · split
      · simp
      · split
        · simp
        · simp only [List.length_take]
          omega
  exact Nat.lt_of_lt_of_le h3 (Nat.pow_le_pow_right (by decide) h4)

theorem sx_shr {w : Int} {n : Nat} (h1 : 1 ≤ w) (h2 : w ≤ 8) (hn : n < 256 ^ w.toNat) : shrI .i64 (shlI .i64 (wr .i64 n) (64 - 8 * w)) (64 - 8 * w) = sx w n := by
  unfold sx
  obtain h | h | h | h | h | h | h | h : w = 1 ∨ w = 2 ∨ w = 3 ∨ w = 4 ∨ w = 5 ∨ w = 6 ∨ w = 7 ∨ w = 8 := by omega
  all_goals subst h
  all_goals (simp only [wr, shrI, shlI, IntKind.wrap, IntKind.bits, IntKind.signed]; simp [Int.fdiv_eq_ediv] at hn ⊢; split <;> omega)

theorem int_c {R : Env} (h : N76 R) (r : Rd) (w : Int) : R.Mc 76 [.loc 0 1 0 0, .int .i64 w] (rdM R r) (.int .i64 (r.int w).1) (rdM R (r.int w).2) 1 :=
  h.o76.enterM 100 1 rfl rfl rfl fun X bb hfit hp => by
    repeat ((intro _u; clear _u); first | with_reducible first | refine cT ?_ | refine cF ?_ | refine cA ?_ | refine cB ?_ | refine aLn ?_ | refine cK ?_ | refine aS8 ?_ | refine wI ?_ | refine nD ?_ | refine aX rfl ?_)
    intro _u; clear _u
    refine cM false [0] (num_c h.n57 r w) ?_
    repeat ((intro _u; clear _u); first | refine eK ?_ | refine eP ?_)
    unfold Rd.int
    repeat ((intro _u; clear _u); first | with_reducible first | refine cT ?_ | refine cF ?_ | refine cA ?_ | refine cB ?_ | refine aLn ?_ | refine cK ?_ | refine aS8 ?_ | refine wI ?_ | refine nD ?_ | refine aX rfl ?_)
    intro _u; clear _u
    refine cS (fun h1 => ?_) (fun h1 => ?_)
    · rw [if_pos (.inl h1)]
      repeat ((intro _u; clear _u); first | with_reducible first | refine cT ?_ | refine cF ?_ | refine cA ?_ | refine cB ?_ | refine aLn ?_ | refine cK ?_ | refine aS8 ?_ | refine wI ?_ | refine nD ?_ | refine aX rfl ?_)
      intro _u; clear _u
      exact rM [0]
    · repeat ((intro _u; clear _u); first | with_reducible first | refine cT ?_ | refine cF ?_ | refine cA ?_ | refine cB ?_ | refine aLn ?_ | refine cK ?_ | refine aS8 ?_ | refine wI ?_ | refine nD ?_ | refine aX rfl ?_)
      intro _u; clear _u
      refine cS (fun h2 => ?_) (fun h2 => ?_)
      · rw [if_pos (.inr h2)]
        repeat ((intro _u; clear _u); first | with_reducible first | refine cT ?_ | refine cF ?_ | refine cA ?_ | refine cB ?_ | refine aLn ?_ | refine cK ?_ | refine aS8 ?_ | refine wI ?_ | refine nD ?_ | refine aX rfl ?_)
        intro _u; clear _u
        exact rM [0]
      · rw [if_neg (by omega)]
        repeat ((intro _u; clear _u); first | with_reducible first | refine cT ?_ | refine cF ?_ | refine cA ?_ | refine cB ?_ | refine aLn ?_ | refine cK ?_ | refine aS8 ?_ | refine wI ?_ | refine nD ?_ | refine aX rfl ?_)
        intro _u; clear _u
        refine iwr_any ?_
        repeat ((intro _u; clear _u); first | with_reducible first | refine cT ?_ | refine cF ?_ | refine cA ?_ | refine cB ?_ | refine aLn ?_ | refine cK ?_ | refine aS8 ?_ | refine wI ?_ | refine nD ?_ | refine aX rfl ?_)
        intro _u; clear _u
        refine rM [0] ?_
        all_goals repeat' (first | exact True.intro | refine And.intro ?_ ?_ | (intro _u; clear _u) | with_reducible first | refine eM ?_ ?_ | refine eF ?_ ?_ ?_ | refine eN ?_ | refine eL ?_ ?_ ?_ | refine eA ?_ ?_ | refine IWk.mk ⟨_, hp, rfl⟩ ?_ ?_)
        all_goals first | with_reducible rfl | omega | exact Or.inl (by decide) | (simp; done) | rfl | skip
        exact sx_shr h1 h2 (num_lt r h1 h2)

theorem left_c {R : Env} (h : N68 R) (r : Rd) : R.Mc 68 [.loc 0 1 0 0] (rdM R r) (.int .i64 (if r.made = false ∨ r.e ≠ 0 then 0 else r.l.length)) (rdM R r) 1 :=
  h.o68.enterM 60 1 rfl rfl rfl fun X bb hfit hp => by
    repeat ((intro _u; clear _u); first | with_reducible first | refine cT ?_ | refine cF ?_ | refine cA ?_ | refine cB ?_ | refine aLn ?_ | refine cK ?_ | refine aS8 ?_ | refine wI ?_ | refine nD ?_ | refine aX rfl ?_)
    intro _u; clear _u
    refine cM false [0] (none_c h.n64 r) ?_
    repeat ((intro _u; clear _u); first | refine eK ?_ | refine eP ?_)
    cases hm : r.made with
    | false =>
      repeat ((intro _u; clear _u); first | with_reducible first | refine cT ?_ | refine cF ?_ | refine cA ?_ | refine cB ?_ | refine aLn ?_ | refine cK ?_ | refine aS8 ?_ | refine wI ?_ | refine nD ?_ | refine aX rfl ?_)
      intro _u; clear _u
      exact rM [0]
    | true =>
      repeat ((intro _u; clear _u); first | with_reducible first | refine cT ?_ | refine cF ?_ | refine cA ?_ | refine cB ?_ | refine aLn ?_ | refine cK ?_ | refine aS8 ?_ | refine wI ?_ | refine nD ?_ | refine aX rfl ?_)
      intro _u; clear _u
      refine cS (fun h1 => ?_) (fun h1 => ?_)
      · repeat ((intro _u; clear _u); first | with_reducible first | refine cT ?_ | refine cF ?_ | refine cA ?_ | refine cB ?_ | refine aLn ?_ | refine cK ?_ | refine aS8 ?_ | refine wI ?_ | refine nD ?_ | refine aX rfl ?_)
        intro _u; clear _u
        exact rM [0]
      · repeat ((intro _u; clear _u); first | with_reducible first | refine cT ?_ | refine cF ?_ | refine cA ?_ | refine cB ?_ | refine aLn ?_ | refine cK ?_ | refine aS8 ?_ | refine wI ?_ | refine nD ?_ | refine aX rfl ?_)
        intro _u; clear _u
        refine rM [0] ?_
        all_goals repeat' (first | exact True.intro | refine And.intro ?_ ?_ | (intro _u; clear _u) | with_reducible first | refine eM ?_ ?_ | refine eF ?_ ?_ ?_ | refine eN ?_ | refine eL ?_ ?_ ?_ | refine eA ?_ ?_ | refine IWk.mk ⟨_, hp, rfl⟩ ?_ ?_)
        all_goals first | with_reducible rfl | omega | exact Or.inl (by decide) | (simp; done) | rfl | skip
        simp [h1]

def Rd.err (r : Rd) : Int := if r.made = false then 1 else r.e
theorem err_c {R : Env} (h : N65 R) (r : Rd) : R.Mc 65 [.loc 0 1 0 0] (rdM R r) (.int .i64 r.err) (rdM R r) 1 :=
  h.o65.enterM 60 1 rfl rfl rfl fun X bb hfit hp => by
    repeat ((intro _u; clear _u); first | with_reducible first | refine cT ?_ | refine cF ?_ | refine cA ?_ | refine cB ?_ | refine aLn ?_ | refine cK ?_ | refine aS8 ?_ | refine wI ?_ | refine nD ?_ | refine aX rfl ?_)
    intro _u; clear _u
    refine cM false [0] (none_c h.n64 r) ?_
    repeat ((intro _u; clear _u); first | refine eK ?_ | refine eP ?_)
    unfold Rd.err
    cases hm : r.made with
    | false =>
      repeat ((intro _u; clear _u); first | with_reducible first | refine cT ?_ | refine cF ?_ | refine cA ?_ | refine cB ?_ | refine aLn ?_ | refine cK ?_ | refine aS8 ?_ | refine wI ?_ | refine nD ?_ | refine aX rfl ?_)
      intro _u; clear _u
      exact rM [0]
    | true =>
      repeat ((intro _u; clear _u); first | with_reducible first | refine cT ?_ | refine cF ?_ | refine cA ?_ | refine cB ?_ | refine aLn ?_ | refine cK ?_ | refine aS8 ?_ | refine wI ?_ | refine nD ?_ | refine aX rfl ?_)
      intro _u; clear _u
      exact rM [0]
theorem err_n {R : Env} (h : N65 R) : R.Pc 65 [.nilp] (.int .i64 1) :=
  h.o65.enter 60 rfl fun X bb hfit hp => by
    repeat ((intro _u; clear _u); first | with_reducible first | refine cT ?_ | refine cF ?_ | refine cA ?_ | refine cB ?_ | refine aLn ?_ | refine cK ?_ | refine aS8 ?_ | refine wI ?_ | refine nD ?_ | refine aX rfl ?_)
    intro _u; clear _u
    refine ICall.pure h.n64.o64.hb (none_n h.n64) rfl ?_
    repeat ((intro _u; clear _u); first | with_reducible first | refine cT ?_ | refine cF ?_ | refine cA ?_ | refine cB ?_ | refine aLn ?_ | refine cK ?_ | refine aS8 ?_ | refine wI ?_ | refine nD ?_ | refine aX rfl ?_)
    intro _u; clear _u
    exact rT

def Rd.fin (r : Rd) : Int := if r.err ≠ 0 then r.err else if 0 < r.l.length then 5 else 0
theorem end_c {R : Env} (h : N60 R) (r : Rd) : R.Mc 60 [.loc 0 1 0 0] (rdM R r) (.int .i64 r.fin) (rdM R r) 1 :=
  h.o60.enterM 60 1 rfl rfl rfl fun X bb hfit hp => by
    repeat ((intro _u; clear _u); first | with_reducible first | refine cT ?_ | refine cF ?_ | refine cA ?_ | refine cB ?_ | refine aLn ?_ | refine cK ?_ | refine aS8 ?_ | refine wI ?_ | refine nD ?_ | refine aX rfl ?_)
    intro _u; clear _u
    refine cM false [0] (err_c h.n65 r) ?_
    repeat ((intro _u; clear _u); first | refine eK ?_ | refine eP ?_)
    unfold Rd.fin
    repeat ((intro _u; clear _u); first | with_reducible first | refine cT ?_ | refine cF ?_ | refine cA ?_ | refine cB ?_ | refine aLn ?_ | refine cK ?_ | refine aS8 ?_ | refine wI ?_ | refine nD ?_ | refine aX rfl ?_)
    intro _u; clear _u
    refine cS (fun h1 => ?_) (fun h1 => ?_)
    · rw [if_pos (by simpa using h1)]
      repeat ((intro _u; clear _u); first | with_reducible first | refine cT ?_ | refine cF ?_ | refine cA ?_ | refine cB ?_ | refine aLn ?_ | refine cK ?_ | refine aS8 ?_ | refine wI ?_ | refine nD ?_ | refine aX rfl ?_)
      intro _u; clear _u
      exact rM [0]
    · rw [if_neg (by simpa using h1)]
      repeat ((intro _u; clear _u); first | with_reducible first | refine cT ?_ | refine cF ?_ | refine cA ?_ | refine cB ?_ | refine aLn ?_ | refine cK ?_ | refine aS8 ?_ | refine wI ?_ | refine nD ?_ | refine aX rfl ?_)
      intro _u; clear _u
      refine cS (fun h2 => ?_) (fun h2 => ?_)
      · rw [if_pos (by simpa using h2)]
        repeat ((intro _u; clear _u); first | with_reducible first | refine cT ?_ | refine cF ?_ | refine cA ?_ | refine cB ?_ | refine aLn ?_ | refine cK ?_ | refine aS8 ?_ | refine wI ?_ | refine nD ?_ | refine aX rfl ?_)
        intro _u; clear _u
        exact rM [0]
      · rw [if_neg (by simpa using h2)]
        repeat ((intro _u; clear _u); first | with_reducible first | refine cT ?_ | refine cF ?_ | refine cA ?_ | refine cB ?_ | refine aLn ?_ | refine cK ?_ | refine aS8 ?_ | refine wI ?_ | refine nD ?_ | refine aX rfl ?_)
        intro _u; clear _u
        exact rM [0]

theorem take_n {R : Env} (h : N59 R) (n : Int) : R.Pc 59 [.nilp, .int .i64 n] .nils :=
  h.o59.enter 100 rfl fun X bb hfit hp => by
    repeat ((intro _u; clear _u); first | with_reducible first | refine cT ?_ | refine cF ?_ | refine cA ?_ | refine cB ?_ | refine aLn ?_ | refine cK ?_ | refine aS8 ?_ | refine wI ?_ | refine nD ?_ | refine aX rfl ?_)
    intro _u; clear _u
    refine ICall.pure h.n64.o64.hb (none_n h.n64) rfl ?_
    repeat ((intro _u; clear _u); first | with_reducible first | refine cT ?_ | refine cF ?_ | refine cA ?_ | refine cB ?_ | refine aLn ?_ | refine cK ?_ | refine aS8 ?_ | refine wI ?_ | refine nD ?_ | refine aX rfl ?_)
    intro _u; clear _u
    exact rT

theorem num_n {R : Env} (h : N57 R) : R.Pc 57 [.nilp, .int .i64 1] (.int .u64 0) :=
  h.o57.enter 100 rfl fun X bb hfit hp => by
    repeat ((intro _u; clear _u); first | with_reducible first | refine cT ?_ | refine cF ?_ | refine cA ?_ | refine cB ?_ | refine aLn ?_ | refine cK ?_ | refine aS8 ?_ | refine wI ?_ | refine nD ?_ | refine aX rfl ?_)
    intro _u; clear _u
    refine acnd_f (by decide) ?_
    repeat ((intro _u; clear _u); first | with_reducible first | refine cT ?_ | refine cF ?_ | refine cA ?_ | refine cB ?_ | refine aLn ?_ | refine cK ?_ | refine aS8 ?_ | refine wI ?_ | refine nD ?_ | refine aX rfl ?_)
    intro _u; clear _u
    refine acnd_f (by decide) ?_
    repeat ((intro _u; clear _u); first | with_reducible first | refine cT ?_ | refine cF ?_ | refine cA ?_ | refine cB ?_ | refine aLn ?_ | refine cK ?_ | refine aS8 ?_ | refine wI ?_ | refine nD ?_ | refine aX rfl ?_)
    intro _u; clear _u
    refine ICall.pure h.n59.o59.hb (take_n h.n59 1) rfl ?_
    repeat ((intro _u; clear _u); first | with_reducible first | refine cT ?_ | refine cF ?_ | refine cA ?_ | refine cB ?_ | refine aLn ?_ | refine cK ?_ | refine aS8 ?_ | refine wI ?_ | refine nD ?_ | refine aX rfl ?_)
    intro _u; clear _u
    refine ILoop.one 60 ?_
    repeat ((intro _u; clear _u); first | with_reducible first | refine cT ?_ | refine cF ?_ | refine cA ?_ | refine cB ?_ | refine aLn ?_ | refine cK ?_ | refine aS8 ?_ | refine wI ?_ | refine nD ?_ | refine aX rfl ?_)
    intro _u; clear _u
    refine acnd_f (by decide) ?_
    repeat ((intro _u; clear _u); first | with_reducible first | refine cT ?_ | refine cF ?_ | refine cA ?_ | refine cB ?_ | refine aLn ?_ | refine cK ?_ | refine aS8 ?_ | refine wI ?_ | refine nD ?_ | refine aX rfl ?_)
    intro _u; clear _u
    exact rT
end Go.UM
