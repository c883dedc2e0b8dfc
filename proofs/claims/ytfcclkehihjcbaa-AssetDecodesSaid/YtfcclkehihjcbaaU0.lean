/- Of the reckoning machine, and what is proved with it: texts joined by program. -/
import Derived.Test.YtfcclkehihjcbaaK2
set_option linter.all false

namespace Go.UM
open Go.AM
def c47 : IFn := { np := 2, rs := [.t 4], body :=
 (.seq
  (.ops [⟨some 4, none, .mv (.k (.bool false))⟩])
  (.seq
   (.ops [⟨some 5, none, .mv (.t 0)⟩,
     ⟨some 6, none, .b2s (.t 5)⟩,
     ⟨some 7, none, .mv (.t 1)⟩,
     ⟨some 8, none, .b2s (.t 7)⟩,
     ⟨some 9, none, .bst .eql (.t 6) (.t 8)⟩,
     ⟨some 4, none, .mv (.t 9)⟩])
   (.keep [4]
    .ret))) }
structure N47 (R : Env) : Prop where
  o47 : R.Fn 47 c47
def c62 : IFn := { np := 1, rs := [.t 2], body :=
 (.seq
  (.ops [⟨some 2, none, .mv (.k (.nils))⟩])
  (.seq
   (.seq
    (.ops [⟨some 3, none, .mv (.t 0)⟩,
      ⟨some 4, none, .isnS false (.t 3)⟩])
    (.cond (.t 4)
     (.seq
      (.ops [⟨some 2, none, .mv (.k (.nils))⟩])
      .ret)
     .skip))
   (.keep [0]
    (.seq
     (.ops [⟨some 5, none, .bslice 4 1 0 [.int .u8 0] []⟩,
       ⟨some 6, none, .mv (.t 0)⟩,
       ⟨some 7, none, .app 4 1 (.t 5) (.t 6)⟩,
       ⟨some 2, none, .mv (.t 7)⟩])
     .ret)))) }
structure N62 (R : Env) : Prop where
  o62 : R.Fn 62 c62
def c106 : IFn := { np := 2, rs := [.t 4], body :=
 (.seq
  (.ops [⟨some 4, none, .mv (.k (.int .i64 0))⟩])
  (.seq
   (.seq
    (.ops [⟨some 6, none, .mv (.t 0)⟩,
      ⟨some 7, none, .lenS (.t 6)⟩,
      ⟨some 8, none, .mv (.k (.int .i64 0))⟩])
    (.keep [0, 1, 7, 8]
     (.block 0
      (.loop
       (.seq
        (.ops [⟨some 9, none, .bin .lss (.t 8) (.t 7)⟩])
        (.seq
         (.cond (.t 9)
          .skip
          (.exit 0))
         (.keep [0, 1, 7, 8]
          (.seq
           (.block 1
            (.seq
             (.ops [⟨some 10, none, .mv (.t 8)⟩,
               ⟨some 5, none, .mv (.t 10)⟩])
             (.seq
              (.ops [⟨some 11, none, .mv (.t 1)⟩,
                ⟨some 12, none, .mv (.t 0)⟩,
                ⟨some 13, none, .mv (.t 5)⟩,
                ⟨some 14, none, .idxS 1 (.t 12) (.t 13)⟩,
                ⟨some 15, none, .load false 1 (.t 14)⟩,
                ⟨some 16, none, .bin .eql (.t 11) (.t 15)⟩])
              (.keep [0, 1, 5, 7, 8, 16]
               (.cond (.t 16)
                (.seq
                 (.ops [⟨some 17, none, .mv (.t 5)⟩,
                   ⟨some 4, none, .mv (.t 17)⟩])
                 .ret)
                .skip)))))
           (.keep [0, 1, 7, 8]
            (.ops [⟨some 18, none, .bin .add (.t 8) (.k (.int .i64 1))⟩,
              ⟨some 8, none, .mv (.t 18)⟩]))))))))))
   (.keep []
    (.seq
     (.ops [⟨some 4, none, .mv (.k (.int .i64 (-1)))⟩])
     .ret)))) }
structure N106 (R : Env) : Prop where
  o106 : R.Fn 106 c106
def c100 : IFn := { np := 2, rs := [.t 4], body :=
 (.seq
  (.ops [⟨some 4, none, .mv (.k (.bool false))⟩])
  (.seq
   (.ops [⟨some 5, none, .mv (.t 0)⟩,
     ⟨some 6, none, .mv (.t 1)⟩,
     ⟨some 7, none, .call 106 [.t 5, .t 6]⟩,
     ⟨some 8, none, .bin .geq (.t 7) (.k (.int .i64 0))⟩,
     ⟨some 4, none, .mv (.t 8)⟩])
   (.keep [4]
    .ret))) }
structure N100 (R : Env) : Prop where
  o100 : R.Fn 100 c100
  n106 : N106 R
def c101 : IFn := { np := 1, rs := [.t 2], body :=
 (.seq
  (.ops [⟨some 2, none, .mv (.k (.nils))⟩])
  (.seq
   (.seq
    (.ops [⟨some 3, none, .mv (.t 0)⟩,
      ⟨some 4, none, .isnS false (.t 3)⟩])
    (.cond (.t 4)
     (.seq
      (.ops [⟨some 2, none, .mv (.k (.nils))⟩])
      .ret)
     .skip))
   (.keep [0]
    (.seq
     (.ops [⟨some 5, none, .bslice 13 3 0 [.int .i64 0, .int .i64 0, .int .i64 0] []⟩,
       ⟨some 6, none, .mv (.t 0)⟩,
       ⟨some 7, none, .app 13 3 (.t 5) (.t 6)⟩,
       ⟨some 2, none, .mv (.t 7)⟩])
     .ret)))) }
structure N101 (R : Env) : Prop where
  o101 : R.Fn 101 c101
def c156 : IFn := { np := 1, rs := [.t 2], body :=
 (.seq
  (.ops [⟨some 2, none, .mv (.k (.nils))⟩])
  (.seq
   (.seq
    (.ops [⟨some 3, none, .mv (.t 0)⟩,
      ⟨some 4, none, .isnS false (.t 3)⟩])
    (.cond (.t 4)
     (.seq
      (.ops [⟨some 2, none, .mv (.k (.nils))⟩])
      .ret)
     .skip))
   (.keep [0]
    (.seq
     (.ops [⟨some 5, none, .bslice 10 1 0 [.int .i64 0] []⟩,
       ⟨some 6, none, .mv (.t 0)⟩,
       ⟨some 7, none, .app 10 1 (.t 5) (.t 6)⟩,
       ⟨some 2, none, .mv (.t 7)⟩])
     .ret)))) }
structure N156 (R : Env) : Prop where
  o156 : R.Fn 156 c156
def c217 : IFn := { np := 2, rs := [.t 4], body :=
 (.seq
  (.ops [⟨some 4, none, .mv (.k (.int .i64 0))⟩])
  (.seq
   (.seq
    (.ops [⟨some 6, none, .mv (.t 0)⟩,
      ⟨some 7, none, .lenS (.t 6)⟩,
      ⟨some 8, none, .mv (.k (.int .i64 0))⟩])
    (.keep [0, 1, 7, 8]
     (.block 0
      (.loop
       (.seq
        (.ops [⟨some 9, none, .bin .lss (.t 8) (.t 7)⟩])
        (.seq
         (.cond (.t 9)
          .skip
          (.exit 0))
         (.keep [0, 1, 7, 8]
          (.seq
           (.block 1
            (.seq
             (.ops [⟨some 10, none, .mv (.t 8)⟩,
               ⟨some 5, none, .mv (.t 10)⟩])
             (.seq
              (.ops [⟨some 11, none, .mv (.t 1)⟩,
                ⟨some 12, none, .mv (.t 0)⟩,
                ⟨some 13, none, .mv (.t 5)⟩,
                ⟨some 14, none, .idxS 3 (.t 12) (.t 13)⟩,
                ⟨some 15, none, .load true 3 (.t 14)⟩,
                ⟨some 16, none, .callv (.t 11) [.t 15]⟩])
              (.keep [0, 1, 5, 7, 8, 16]
               (.cond (.t 16)
                (.seq
                 (.ops [⟨some 17, none, .mv (.t 5)⟩,
                   ⟨some 4, none, .mv (.t 17)⟩])
                 .ret)
                .skip)))))
           (.keep [0, 1, 7, 8]
            (.ops [⟨some 18, none, .bin .add (.t 8) (.k (.int .i64 1))⟩,
              ⟨some 8, none, .mv (.t 18)⟩]))))))))))
   (.keep []
    (.seq
     (.ops [⟨some 4, none, .mv (.k (.int .i64 (-1)))⟩])
     .ret)))) }
structure N217 (R : Env) : Prop where
  o217 : R.Fn 217 c217
def c209 : IFn := { np := 2, rs := [.t 4], body :=
 (.seq
  (.ops [⟨some 4, none, .mv (.k (.bool false))⟩])
  (.seq
   (.ops [⟨some 5, none, .mv (.t 0)⟩,
     ⟨some 6, none, .mv (.t 1)⟩,
     ⟨some 7, none, .call 217 [.t 5, .t 6]⟩,
     ⟨some 8, none, .bin .geq (.t 7) (.k (.int .i64 0))⟩,
     ⟨some 4, none, .mv (.t 8)⟩])
   (.keep [4]
    .ret))) }
structure N209 (R : Env) : Prop where
  o209 : R.Fn 209 c209
  n217 : N217 R
def c218 : IFn := { np := 2, rs := [.t 4], body :=
 (.seq
  (.ops [⟨some 4, none, .mv (.k (.int .i64 0))⟩])
  (.seq
   (.seq
    (.ops [⟨some 6, none, .mv (.t 0)⟩,
      ⟨some 7, none, .lenS (.t 6)⟩,
      ⟨some 8, none, .mv (.k (.int .i64 0))⟩])
    (.keep [0, 1, 7, 8]
     (.block 0
      (.loop
       (.seq
        (.ops [⟨some 9, none, .bin .lss (.t 8) (.t 7)⟩])
        (.seq
         (.cond (.t 9)
          .skip
          (.exit 0))
         (.keep [0, 1, 7, 8]
          (.seq
           (.block 1
            (.seq
             (.ops [⟨some 10, none, .mv (.t 8)⟩,
               ⟨some 5, none, .mv (.t 10)⟩])
             (.seq
              (.ops [⟨some 11, none, .mv (.t 1)⟩,
                ⟨some 12, none, .mv (.t 0)⟩,
                ⟨some 13, none, .mv (.t 5)⟩,
                ⟨some 14, none, .idxS 2 (.t 12) (.t 13)⟩,
                ⟨some 15, none, .load true 2 (.t 14)⟩,
                ⟨some 16, none, .callv (.t 11) [.t 15]⟩])
              (.keep [0, 1, 5, 7, 8, 16]
               (.cond (.t 16)
                (.seq
                 (.ops [⟨some 17, none, .mv (.t 5)⟩,
                   ⟨some 4, none, .mv (.t 17)⟩])
                 .ret)
                .skip)))))
           (.keep [0, 1, 7, 8]
            (.ops [⟨some 18, none, .bin .add (.t 8) (.k (.int .i64 1))⟩,
              ⟨some 8, none, .mv (.t 18)⟩]))))))))))
   (.keep []
    (.seq
     (.ops [⟨some 4, none, .mv (.k (.int .i64 (-1)))⟩])
     .ret)))) }
structure N218 (R : Env) : Prop where
  o218 : R.Fn 218 c218
def c210 : IFn := { np := 2, rs := [.t 4], body :=
 (.seq
  (.ops [⟨some 4, none, .mv (.k (.bool false))⟩])
  (.seq
   (.ops [⟨some 5, none, .mv (.t 0)⟩,
     ⟨some 6, none, .mv (.t 1)⟩,
     ⟨some 7, none, .call 218 [.t 5, .t 6]⟩,
     ⟨some 8, none, .bin .geq (.t 7) (.k (.int .i64 0))⟩,
     ⟨some 4, none, .mv (.t 8)⟩])
   (.keep [4]
    .ret))) }
structure N210 (R : Env) : Prop where
  o210 : R.Fn 210 c210
  n218 : N218 R
def c219 : IFn := { np := 2, rs := [.t 4], body :=
 (.seq
  (.ops [⟨some 4, none, .mv (.k (.int .i64 0))⟩])
  (.seq
   (.seq
    (.ops [⟨some 6, none, .mv (.t 0)⟩,
      ⟨some 7, none, .lenS (.t 6)⟩,
      ⟨some 8, none, .mv (.k (.int .i64 0))⟩])
    (.keep [0, 1, 7, 8]
     (.block 0
      (.loop
       (.seq
        (.ops [⟨some 9, none, .bin .lss (.t 8) (.t 7)⟩])
        (.seq
         (.cond (.t 9)
          .skip
          (.exit 0))
         (.keep [0, 1, 7, 8]
          (.seq
           (.block 1
            (.seq
             (.ops [⟨some 10, none, .mv (.t 8)⟩,
               ⟨some 5, none, .mv (.t 10)⟩])
             (.seq
              (.ops [⟨some 11, none, .mv (.t 1)⟩,
                ⟨some 12, none, .mv (.t 0)⟩,
                ⟨some 13, none, .mv (.t 5)⟩,
                ⟨some 14, none, .idxS 3 (.t 12) (.t 13)⟩,
                ⟨some 15, none, .load true 3 (.t 14)⟩,
                ⟨some 16, none, .callv (.t 11) [.t 15]⟩])
              (.keep [0, 1, 5, 7, 8, 16]
               (.cond (.t 16)
                (.seq
                 (.ops [⟨some 17, none, .mv (.t 5)⟩,
                   ⟨some 4, none, .mv (.t 17)⟩])
                 .ret)
                .skip)))))
           (.keep [0, 1, 7, 8]
            (.ops [⟨some 18, none, .bin .add (.t 8) (.k (.int .i64 1))⟩,
              ⟨some 8, none, .mv (.t 18)⟩]))))))))))
   (.keep []
    (.seq
     (.ops [⟨some 4, none, .mv (.k (.int .i64 (-1)))⟩])
     .ret)))) }
structure N219 (R : Env) : Prop where
  o219 : R.Fn 219 c219
def c211 : IFn := { np := 2, rs := [.t 4], body :=
 (.seq
  (.ops [⟨some 4, none, .mv (.k (.bool false))⟩])
  (.seq
   (.ops [⟨some 5, none, .mv (.t 0)⟩,
     ⟨some 6, none, .mv (.t 1)⟩,
     ⟨some 7, none, .call 219 [.t 5, .t 6]⟩,
     ⟨some 8, none, .bin .geq (.t 7) (.k (.int .i64 0))⟩,
     ⟨some 4, none, .mv (.t 8)⟩])
   (.keep [4]
    .ret))) }
structure N211 (R : Env) : Prop where
  o211 : R.Fn 211 c211
  n219 : N219 R
def c276 : IFn := { np := 2, rs := [.t 4, .t 5], body :=
 (.seq
  (.ops [⟨some 4, none, .mv (.k (.int .u64 0))⟩,
    ⟨some 5, none, .mv (.k (.int .u64 0))⟩])
  (.seq
   (.ops [⟨some 14, none, .mv (.t 0)⟩,
     ⟨some 15, none, .bin .and (.t 14) (.k (.int .u64 4294967295))⟩,
     ⟨some 6, none, .mv (.t 15)⟩])
   (.seq
    (.ops [⟨some 16, none, .mv (.t 0)⟩,
      ⟨some 17, none, .bin .shr (.t 16) (.k (.int .u64 32))⟩,
      ⟨some 7, none, .mv (.t 17)⟩])
    (.seq
     (.ops [⟨some 18, none, .mv (.t 1)⟩,
       ⟨some 19, none, .bin .and (.t 18) (.k (.int .u64 4294967295))⟩,
       ⟨some 8, none, .mv (.t 19)⟩])
     (.seq
      (.ops [⟨some 20, none, .mv (.t 1)⟩,
        ⟨some 21, none, .bin .shr (.t 20) (.k (.int .u64 32))⟩,
        ⟨some 9, none, .mv (.t 21)⟩])
      (.seq
       (.ops [⟨some 22, none, .mv (.t 6)⟩,
         ⟨some 23, none, .mv (.t 8)⟩,
         ⟨some 24, none, .bin .mul (.t 22) (.t 23)⟩,
         ⟨some 10, none, .mv (.t 24)⟩])
       (.seq
        (.ops [⟨some 25, none, .mv (.t 7)⟩,
          ⟨some 26, none, .mv (.t 8)⟩,
          ⟨some 27, none, .bin .mul (.t 25) (.t 26)⟩,
          ⟨some 28, none, .mv (.t 10)⟩,
          ⟨some 29, none, .bin .shr (.t 28) (.k (.int .u64 32))⟩,
          ⟨some 30, none, .bin .add (.t 27) (.t 29)⟩,
          ⟨some 11, none, .mv (.t 30)⟩])
        (.keep [0, 1, 6, 7, 9, 11]
         (.seq
          (.ops [⟨some 31, none, .mv (.t 11)⟩,
            ⟨some 32, none, .bin .and (.t 31) (.k (.int .u64 4294967295))⟩,
            ⟨some 12, none, .mv (.t 32)⟩])
          (.seq
           (.ops [⟨some 33, none, .mv (.t 11)⟩,
             ⟨some 34, none, .bin .shr (.t 33) (.k (.int .u64 32))⟩,
             ⟨some 13, none, .mv (.t 34)⟩])
           (.seq
            (.ops [⟨some 35, none, .mv (.t 12)⟩,
              ⟨some 36, none, .mv (.t 6)⟩,
              ⟨some 37, none, .mv (.t 9)⟩,
              ⟨some 38, none, .bin .mul (.t 36) (.t 37)⟩,
              ⟨some 39, none, .bin .add (.t 35) (.t 38)⟩,
              ⟨some 12, none, .mv (.t 39)⟩])
            (.keep [0, 1, 7, 9, 12, 13]
             (.seq
              (.ops [⟨some 40, none, .mv (.t 7)⟩,
                ⟨some 41, none, .mv (.t 9)⟩,
                ⟨some 42, none, .bin .mul (.t 40) (.t 41)⟩,
                ⟨some 43, none, .mv (.t 13)⟩,
                ⟨some 44, none, .bin .add (.t 42) (.t 43)⟩,
                ⟨some 45, none, .mv (.t 12)⟩,
                ⟨some 46, none, .bin .shr (.t 45) (.k (.int .u64 32))⟩,
                ⟨some 47, none, .bin .add (.t 44) (.t 46)⟩,
                ⟨some 4, none, .mv (.t 47)⟩])
              (.keep [0, 1, 4]
               (.seq
                (.ops [⟨some 48, none, .mv (.t 0)⟩,
                  ⟨some 49, none, .mv (.t 1)⟩,
                  ⟨some 50, none, .bin .mul (.t 48) (.t 49)⟩,
                  ⟨some 5, none, .mv (.t 50)⟩])
                .ret))))))))))))))) }
structure N276 (R : Env) : Prop where
  o276 : R.Fn 276 c276
structure N286 (R : Env) : Prop where
  x286 : R.Xn 286 "math/bits.Sub64"
def c324 : IFn := { np := 2, rs := [.t 4], body :=
 (.seq
  (.ops [⟨some 4, none, .mv (.k (.int .i64 0))⟩])
  (.seq
   (.seq
    (.ops [⟨some 6, none, .mv (.t 0)⟩,
      ⟨some 7, none, .lenS (.t 6)⟩,
      ⟨some 8, none, .mv (.k (.int .i64 0))⟩])
    (.keep [0, 1, 7, 8]
     (.block 0
      (.loop
       (.seq
        (.ops [⟨some 9, none, .bin .lss (.t 8) (.t 7)⟩])
        (.seq
         (.cond (.t 9)
          .skip
          (.exit 0))
         (.keep [0, 1, 7, 8]
          (.seq
           (.block 1
            (.seq
             (.ops [⟨some 10, none, .mv (.t 8)⟩,
               ⟨some 5, none, .mv (.t 10)⟩])
             (.seq
              (.ops [⟨some 11, none, .mv (.t 1)⟩,
                ⟨some 12, none, .mv (.t 0)⟩,
                ⟨some 13, none, .mv (.t 5)⟩,
                ⟨some 14, none, .idxS 1 (.t 12) (.t 13)⟩,
                ⟨some 15, none, .load false 1 (.t 14)⟩,
                ⟨some 16, none, .callv (.t 11) [.t 15]⟩])
              (.keep [0, 1, 5, 7, 8, 16]
               (.cond (.t 16)
                (.seq
                 (.ops [⟨some 17, none, .mv (.t 5)⟩,
                   ⟨some 4, none, .mv (.t 17)⟩])
                 .ret)
                .skip)))))
           (.keep [0, 1, 7, 8]
            (.ops [⟨some 18, none, .bin .add (.t 8) (.k (.int .i64 1))⟩,
              ⟨some 8, none, .mv (.t 18)⟩]))))))))))
   (.keep []
    (.seq
     (.ops [⟨some 4, none, .mv (.k (.int .i64 (-1)))⟩])
     .ret)))) }
structure N324 (R : Env) : Prop where
  o324 : R.Fn 324 c324
def c323 : IFn := { np := 2, rs := [.t 4], body :=
 (.seq
  (.ops [⟨some 4, none, .mv (.k (.bool false))⟩])
  (.seq
   (.ops [⟨some 5, none, .mv (.t 0)⟩,
     ⟨some 6, none, .mv (.t 1)⟩,
     ⟨some 7, none, .call 324 [.t 5, .t 6]⟩,
     ⟨some 8, none, .bin .geq (.t 7) (.k (.int .i64 0))⟩,
     ⟨some 4, none, .mv (.t 8)⟩])
   (.keep [4]
    .ret))) }
structure N323 (R : Env) : Prop where
  o323 : R.Fn 323 c323
  n324 : N324 R
end Go.UM

namespace Go.UM
open Go.AM
def c54 : IFn := { np := 3, rs := [.t 6, .t 7], body :=
 (.seq
  (.ops [⟨some 6, none, .mv (.k (.nils))⟩,
    ⟨some 7, none, .mv (.k (.int .i64 0))⟩])
  (.seq
   (.seq
    (.ops [⟨some 12, none, .mv (.t 1)⟩,
      ⟨some 13, none, .bin .lss (.t 12) (.k (.int .i64 1))⟩,
      ⟨some 14, none, .mv (.t 13)⟩,
      ⟨some 15, some (14, false), .mv (.t 1)⟩,
      ⟨some 16, some (14, false), .bin .gtr (.t 15) (.k (.int .i64 8))⟩,
      ⟨some 17, none, .pick (.t 14) (.k (.bool true)) (.t 16)⟩])
    (.keep [0, 1, 2, 17]
     (.cond (.t 17)
      (.seq
       (.ops [⟨some 6, none, .mv (.k (.nils))⟩,
         ⟨some 7, none, .mv (.k (.int .i64 2))⟩])
       .ret)
      .skip)))
   (.keep [0, 1, 2]
    (.seq
     (.ops [⟨some 18, none, .mv (.t 0)⟩,
       ⟨some 19, none, .call 62 [.t 18]⟩,
       ⟨some 8, none, .mv (.t 19)⟩])
     (.seq
      (.seq
       (.ops [⟨some 20, none, .mv (.t 2)⟩,
         ⟨some 21, none, .lenS (.t 20)⟩,
         ⟨some 22, none, .mv (.k (.int .i64 0))⟩])
       (.keep [1, 8, 20, 21, 22]
        (.block 0
         (.loop
          (.seq
           (.ops [⟨some 23, none, .bin .lss (.t 22) (.t 21)⟩])
           (.seq
            (.cond (.t 23)
             .skip
             (.exit 0))
            (.keep [1, 8, 20, 21, 22]
             (.seq
              (.block 1
               (.seq
                (.ops [⟨some 24, none, .idxS 1 (.t 20) (.t 22)⟩,
                  ⟨some 25, none, .load false 1 (.t 24)⟩,
                  ⟨some 10, none, .mv (.t 25)⟩])
                (.seq
                 (.seq
                  (.ops [⟨some 26, none, .mv (.t 1)⟩,
                    ⟨some 27, none, .bin .lss (.t 26) (.k (.int .i64 8))⟩,
                    ⟨some 28, none, .mv (.t 27)⟩,
                    ⟨some 29, some (28, true), .mv (.t 10)⟩,
                    ⟨some 30, some (28, true), .mv (.t 1)⟩,
                    ⟨some 31, some (28, true), .bin .mul (.k (.int .i64 8)) (.t 30)⟩,
                    ⟨some 32, some (28, true), .bin .shr (.t 29) (.t 31)⟩,
                    ⟨some 33, some (28, true), .bin .gtr (.t 32) (.k (.int .u64 0))⟩,
                    ⟨some 34, none, .pick (.t 28) (.t 33) (.k (.bool false))⟩])
                  (.keep [1, 8, 10, 20, 21, 22, 34]
                   (.cond (.t 34)
                    (.seq
                     (.ops [⟨some 6, none, .mv (.k (.nils))⟩,
                       ⟨some 7, none, .mv (.k (.int .i64 3))⟩])
                     .ret)
                    .skip)))
                 (.keep [1, 8, 10, 20, 21, 22]
                  (.seq
                   (.ops [⟨some 35, none, .mv (.t 1)⟩,
                     ⟨some 36, none, .mv (.k (.int .i64 0))⟩])
                   (.keep [1, 8, 10, 20, 21, 22, 35, 36]
                    (.block 2
                     (.loop
                      (.seq
                       (.ops [⟨some 37, none, .bin .lss (.t 36) (.t 35)⟩])
                       (.seq
                        (.cond (.t 37)
                         .skip
                         (.exit 2))
                        (.keep [1, 8, 10, 20, 21, 22, 35, 36]
                         (.seq
                          (.block 3
                           (.seq
                            (.ops [⟨some 38, none, .mv (.t 36)⟩,
                              ⟨some 11, none, .mv (.t 38)⟩])
                            (.ops [⟨some 39, none, .mv (.t 8)⟩,
                              ⟨some 40, none, .mv (.t 10)⟩,
                              ⟨some 41, none, .mv (.t 11)⟩,
                              ⟨some 42, none, .bin .mul (.k (.int .i64 8)) (.t 41)⟩,
                              ⟨some 43, none, .bin .shr (.t 40) (.t 42)⟩,
                              ⟨some 44, none, .conv .u8 (.t 43)⟩,
                              ⟨some 45, none, .bslice 4 1 1 [.int .u8 0] [(0, .t 44)]⟩,
                              ⟨some 46, none, .app 4 1 (.t 39) (.t 45)⟩,
                              ⟨some 8, none, .mv (.t 46)⟩])))
                          (.keep [1, 8, 10, 20, 21, 22, 35, 36]
                           (.ops [⟨some 47, none, .bin .add (.t 36) (.k (.int .i64 1))⟩,
                             ⟨some 36, none, .mv (.t 47)⟩]))))))))))))))
              (.keep [1, 8, 20, 21, 22]
               (.ops [⟨some 48, none, .bin .add (.t 22) (.k (.int .i64 1))⟩,
                 ⟨some 22, none, .mv (.t 48)⟩]))))))))))
      (.keep [8]
       (.seq
        (.ops [⟨some 49, none, .mv (.t 8)⟩,
          ⟨some 6, none, .mv (.t 49)⟩,
          ⟨some 7, none, .mv (.k (.int .i64 0))⟩])
        .ret))))))) }
structure N54 (R : Env) : Prop where
  o54 : R.Fn 54 c54
  n62 : N62 R
def c56 : IFn := { np := 1, rs := [.t 2], body :=
 (.seq
  (.ops [⟨some 2, none, .mv (.k (.nilp))⟩])
  (.seq
   (.ops [⟨some 3, none, .mv (.t 0)⟩,
     ⟨some 4, none, .call 62 [.t 3]⟩,
     ⟨some 5, none, .build [.nils, .int .i64 0, .bool false] [(0, 1, .t 4), (2, 1, .k (.bool true))]⟩,
     ⟨some 6, none, .box 9 (.t 5)⟩,
     ⟨some 2, none, .mv (.t 6)⟩])
   (.keep [2]
    .ret))) }
structure N56 (R : Env) : Prop where
  o56 : R.Fn 56 c56
  n62 : N62 R
def c64 : IFn := { np := 1, rs := [.t 2], body :=
 (.seq
  (.ops [⟨some 2, none, .mv (.k (.bool false))⟩])
  (.seq
   (.ops [⟨some 3, none, .mv (.t 0)⟩,
     ⟨some 4, none, .isn false (.t 3)⟩,
     ⟨some 5, none, .mv (.t 4)⟩,
     ⟨some 6, some (5, false), .mv (.t 0)⟩,
     ⟨some 7, some (5, false), .nilck (.t 6)⟩,
     ⟨some 8, some (5, false), .fldA 2 (.t 7)⟩,
     ⟨some 9, some (5, false), .load false 1 (.t 8)⟩,
     ⟨some 10, some (5, false), .un .not (.t 9)⟩,
     ⟨some 11, none, .pick (.t 5) (.k (.bool true)) (.t 10)⟩,
     ⟨some 2, none, .mv (.t 11)⟩])
   (.keep [2]
    .ret))) }
structure N64 (R : Env) : Prop where
  o64 : R.Fn 64 c64
def c59 : IFn := { np := 2, rs := [.t 4], body :=
 (.seq
  (.ops [⟨some 4, none, .mv (.k (.nils))⟩])
  (.seq
   (.block 0
    (.seq
     (.ops [⟨some 7, none, .mv (.t 0)⟩,
       ⟨some 8, none, .call 64 [.t 7]⟩,
       ⟨some 9, none, .mv (.t 8)⟩,
       ⟨some 10, some (9, false), .mv (.t 0)⟩,
       ⟨some 11, some (9, false), .nilck (.t 10)⟩,
       ⟨some 12, some (9, false), .fldA 1 (.t 11)⟩,
       ⟨some 13, some (9, false), .load false 1 (.t 12)⟩,
       ⟨some 14, some (9, false), .bin .neq (.t 13) (.k (.int .i64 0))⟩,
       ⟨some 15, none, .pick (.t 9) (.k (.bool true)) (.t 14)⟩,
       ⟨some 6, none, .mv (.t 15)⟩])
     (.keep [0, 1, 6]
      (.cond (.t 6)
       (.seq
        (.ops [⟨some 4, none, .mv (.k (.nils))⟩])
        .ret)
       (.seq
        (.ops [⟨some 17, none, .mv (.t 1)⟩,
          ⟨some 18, none, .bin .lss (.t 17) (.k (.int .i64 0))⟩,
          ⟨some 16, none, .mv (.t 18)⟩])
        (.cond (.t 16)
         (.seq
          (.ops [⟨some 19, none, .mv (.t 0)⟩,
            ⟨some 20, none, .nilck (.t 19)⟩,
            ⟨some 21, none, .fldA 1 (.t 20)⟩,
            ⟨none, none, .store 1 (.t 21) (.k (.int .i64 2))⟩])
          (.seq
           (.ops [⟨some 4, none, .mv (.k (.nils))⟩])
           .ret))
         (.seq
          (.ops [⟨some 23, none, .mv (.t 1)⟩,
            ⟨some 24, none, .mv (.t 0)⟩,
            ⟨some 25, none, .nilck (.t 24)⟩,
            ⟨some 26, none, .fldA 0 (.t 25)⟩,
            ⟨some 27, none, .load false 1 (.t 26)⟩,
            ⟨some 28, none, .lenS (.t 27)⟩,
            ⟨some 29, none, .bin .gtr (.t 23) (.t 28)⟩,
            ⟨some 22, none, .mv (.t 29)⟩])
          (.keep [0, 1, 22]
           (.cond (.t 22)
            (.seq
             (.ops [⟨some 30, none, .mv (.t 0)⟩,
               ⟨some 31, none, .nilck (.t 30)⟩,
               ⟨some 32, none, .fldA 1 (.t 31)⟩,
               ⟨none, none, .store 1 (.t 32) (.k (.int .i64 4))⟩])
             (.seq
              (.ops [⟨some 4, none, .mv (.k (.nils))⟩])
              .ret))
            .skip)))))))))
   (.keep [0, 1]
    (.seq
     (.ops [⟨some 33, none, .mv (.t 0)⟩,
       ⟨some 34, none, .nilck (.t 33)⟩,
       ⟨some 35, none, .fldA 0 (.t 34)⟩,
       ⟨some 36, none, .load false 1 (.t 35)⟩,
       ⟨some 37, none, .mv (.t 1)⟩,
       ⟨some 38, none, .mv (.t 1)⟩,
       ⟨some 39, none, .slcS 4 1 (.t 36) none (some (.t 37)) (some (.t 38))⟩,
       ⟨some 5, none, .mv (.t 39)⟩])
     (.keep [0, 1, 5]
      (.seq
       (.ops [⟨some 40, none, .mv (.t 0)⟩,
         ⟨some 41, none, .mv (.t 0)⟩,
         ⟨some 42, none, .nilck (.t 41)⟩,
         ⟨some 43, none, .fldA 0 (.t 42)⟩,
         ⟨some 44, none, .load false 1 (.t 43)⟩,
         ⟨some 45, none, .mv (.t 1)⟩,
         ⟨some 46, none, .slcS 4 1 (.t 44) (some (.t 45)) none none⟩,
         ⟨some 47, none, .nilck (.t 40)⟩,
         ⟨some 48, none, .fldA 0 (.t 47)⟩,
         ⟨none, none, .store 1 (.t 48) (.t 46)⟩])
       (.keep [5]
        (.seq
         (.ops [⟨some 49, none, .mv (.t 5)⟩,
           ⟨some 4, none, .mv (.t 49)⟩])
         .ret)))))))) }
structure N59 (R : Env) : Prop where
  o59 : R.Fn 59 c59
  n64 : N64 R
def c57 : IFn := { np := 2, rs := [.t 4], body :=
 (.seq
  (.ops [⟨some 4, none, .mv (.k (.int .u64 0))⟩])
  (.seq
   (.seq
    (.ops [⟨some 8, none, .mv (.t 1)⟩,
      ⟨some 9, none, .bin .lss (.t 8) (.k (.int .i64 1))⟩,
      ⟨some 10, none, .mv (.t 9)⟩,
      ⟨some 11, some (10, false), .mv (.t 1)⟩,
      ⟨some 12, some (10, false), .bin .gtr (.t 11) (.k (.int .i64 8))⟩,
      ⟨some 13, none, .pick (.t 10) (.k (.bool true)) (.t 12)⟩])
    (.keep [0, 1, 13]
     (.cond (.t 13)
      (.ops [⟨some 1, none, .mv (.k (.int .i64 (-1)))⟩])
      .skip)))
   (.keep [0, 1]
    (.seq
     (.ops [⟨some 5, none, .mv (.k (.int .u64 0))⟩])
     (.seq
      (.seq
       (.ops [⟨some 14, none, .mv (.t 0)⟩,
         ⟨some 15, none, .mv (.t 1)⟩,
         ⟨some 16, none, .call 59 [.t 14, .t 15]⟩,
         ⟨some 17, none, .lenS (.t 16)⟩,
         ⟨some 18, none, .mv (.k (.int .i64 0))⟩])
       (.keep [5, 16, 17, 18]
        (.block 0
         (.loop
          (.seq
           (.ops [⟨some 19, none, .bin .lss (.t 18) (.t 17)⟩])
           (.seq
            (.cond (.t 19)
             .skip
             (.exit 0))
            (.keep [5, 16, 17, 18]
             (.seq
              (.block 1
               (.seq
                (.ops [⟨some 20, none, .mv (.t 18)⟩,
                  ⟨some 21, none, .idxS 1 (.t 16) (.t 18)⟩,
                  ⟨some 22, none, .load false 1 (.t 21)⟩,
                  ⟨some 6, none, .mv (.t 20)⟩,
                  ⟨some 7, none, .mv (.t 22)⟩])
                (.keep [5, 6, 7, 16, 17, 18]
                 (.ops [⟨some 23, none, .mv (.t 5)⟩,
                   ⟨some 24, none, .mv (.t 7)⟩,
                   ⟨some 25, none, .conv .u64 (.t 24)⟩,
                   ⟨some 26, none, .mv (.t 6)⟩,
                   ⟨some 27, none, .bin .mul (.k (.int .i64 8)) (.t 26)⟩,
                   ⟨some 28, none, .bin .shl (.t 25) (.t 27)⟩,
                   ⟨some 29, none, .bin .or (.t 23) (.t 28)⟩,
                   ⟨some 5, none, .mv (.t 29)⟩]))))
              (.keep [5, 16, 17, 18]
               (.ops [⟨some 30, none, .bin .add (.t 18) (.k (.int .i64 1))⟩,
                 ⟨some 18, none, .mv (.t 30)⟩]))))))))))
      (.keep [5]
       (.seq
        (.ops [⟨some 31, none, .mv (.t 5)⟩,
          ⟨some 4, none, .mv (.t 31)⟩])
        .ret))))))) }
structure N57 (R : Env) : Prop where
  o57 : R.Fn 57 c57
  n59 : N59 R
def c65 : IFn := { np := 1, rs := [.t 2], body :=
 (.seq
  (.ops [⟨some 2, none, .mv (.k (.int .i64 0))⟩])
  (.seq
   (.seq
    (.ops [⟨some 3, none, .mv (.t 0)⟩,
      ⟨some 4, none, .call 64 [.t 3]⟩])
    (.cond (.t 4)
     (.seq
      (.ops [⟨some 2, none, .mv (.k (.int .i64 1))⟩])
      .ret)
     .skip))
   (.keep [0]
    (.seq
     (.ops [⟨some 5, none, .mv (.t 0)⟩,
       ⟨some 6, none, .nilck (.t 5)⟩,
       ⟨some 7, none, .fldA 1 (.t 6)⟩,
       ⟨some 8, none, .load false 1 (.t 7)⟩,
       ⟨some 2, none, .mv (.t 8)⟩])
     (.keep [2]
      .ret))))) }
structure N65 (R : Env) : Prop where
  o65 : R.Fn 65 c65
  n64 : N64 R
def c60 : IFn := { np := 1, rs := [.t 2], body :=
 (.seq
  (.ops [⟨some 2, none, .mv (.k (.int .i64 0))⟩])
  (.seq
   (.seq
    (.ops [⟨some 4, none, .mv (.t 0)⟩,
      ⟨some 5, none, .call 65 [.t 4]⟩,
      ⟨some 3, none, .mv (.t 5)⟩])
    (.seq
     (.ops [⟨some 6, none, .mv (.t 3)⟩,
       ⟨some 7, none, .bin .neq (.t 6) (.k (.int .i64 0))⟩])
     (.cond (.t 7)
      (.seq
       (.ops [⟨some 8, none, .mv (.t 3)⟩,
         ⟨some 2, none, .mv (.t 8)⟩])
       .ret)
      .skip)))
   (.keep [0]
    (.seq
     (.seq
      (.ops [⟨some 9, none, .mv (.t 0)⟩,
        ⟨some 10, none, .nilck (.t 9)⟩,
        ⟨some 11, none, .fldA 0 (.t 10)⟩,
        ⟨some 12, none, .load false 1 (.t 11)⟩,
        ⟨some 13, none, .lenS (.t 12)⟩,
        ⟨some 14, none, .bin .gtr (.t 13) (.k (.int .i64 0))⟩])
      (.keep [14]
       (.cond (.t 14)
        (.seq
         (.ops [⟨some 2, none, .mv (.k (.int .i64 5))⟩])
         .ret)
        .skip)))
     (.keep []
      (.seq
       (.ops [⟨some 2, none, .mv (.k (.int .i64 0))⟩])
       .ret)))))) }
structure N60 (R : Env) : Prop where
  o60 : R.Fn 60 c60
  n65 : N65 R
def c71 : IFn := { np := 3, rs := [.t 6, .t 7], body :=
 (.seq
  (.ops [⟨some 6, none, .mv (.k (.nils))⟩,
    ⟨some 7, none, .mv (.k (.int .i64 0))⟩])
  (.seq
   (.seq
    (.ops [⟨some 12, none, .mv (.t 1)⟩,
      ⟨some 13, none, .bin .lss (.t 12) (.k (.int .i64 1))⟩,
      ⟨some 14, none, .mv (.t 13)⟩,
      ⟨some 15, some (14, false), .mv (.t 1)⟩,
      ⟨some 16, some (14, false), .bin .gtr (.t 15) (.k (.int .i64 8))⟩,
      ⟨some 17, none, .pick (.t 14) (.k (.bool true)) (.t 16)⟩])
    (.keep [0, 1, 2, 17]
     (.cond (.t 17)
      (.seq
       (.ops [⟨some 6, none, .mv (.k (.nils))⟩,
         ⟨some 7, none, .mv (.k (.int .i64 2))⟩])
       .ret)
      .skip)))
   (.keep [0, 1, 2]
    (.seq
     (.ops [⟨some 8, none, .mv (.k (.nils))⟩])
     (.seq
      (.seq
       (.ops [⟨some 18, none, .mv (.t 2)⟩,
         ⟨some 19, none, .lenS (.t 18)⟩,
         ⟨some 20, none, .mv (.k (.int .i64 0))⟩])
       (.keep [0, 1, 8, 18, 19, 20]
        (.block 0
         (.loop
          (.seq
           (.ops [⟨some 21, none, .bin .lss (.t 20) (.t 19)⟩])
           (.seq
            (.cond (.t 21)
             .skip
             (.exit 0))
            (.keep [0, 1, 8, 18, 19, 20]
             (.seq
              (.block 1
               (.seq
                (.ops [⟨some 22, none, .idxS 1 (.t 18) (.t 20)⟩,
                  ⟨some 23, none, .load false 1 (.t 22)⟩,
                  ⟨some 10, none, .mv (.t 23)⟩])
                (.seq
                 (.seq
                  (.ops [⟨some 24, none, .mv (.t 10)⟩,
                    ⟨some 25, none, .mv (.t 1)⟩,
                    ⟨some 26, none, .bin .mul (.k (.int .i64 8)) (.t 25)⟩,
                    ⟨some 27, none, .bin .sub (.k (.int .i64 64)) (.t 26)⟩,
                    ⟨some 28, none, .bin .shl (.t 24) (.t 27)⟩,
                    ⟨some 29, none, .mv (.t 1)⟩,
                    ⟨some 30, none, .bin .mul (.k (.int .i64 8)) (.t 29)⟩,
                    ⟨some 31, none, .bin .sub (.k (.int .i64 64)) (.t 30)⟩,
                    ⟨some 32, none, .bin .shr (.t 28) (.t 31)⟩,
                    ⟨some 11, none, .mv (.t 32)⟩])
                  (.keep [0, 1, 8, 10, 11, 18, 19, 20]
                   (.seq
                    (.ops [⟨some 33, none, .mv (.t 11)⟩,
                      ⟨some 34, none, .mv (.t 10)⟩,
                      ⟨some 35, none, .bin .neq (.t 33) (.t 34)⟩])
                    (.cond (.t 35)
                     (.seq
                      (.ops [⟨some 6, none, .mv (.k (.nils))⟩,
                        ⟨some 7, none, .mv (.k (.int .i64 3))⟩])
                      .ret)
                     .skip))))
                 (.keep [0, 1, 8, 10, 18, 19, 20]
                  (.ops [⟨some 36, none, .mv (.t 8)⟩,
                    ⟨some 37, none, .mv (.t 10)⟩,
                    ⟨some 38, none, .conv .u64 (.t 37)⟩,
                    ⟨some 39, none, .mv (.t 1)⟩,
                    ⟨some 40, none, .bin .mul (.k (.int .i64 8)) (.t 39)⟩,
                    ⟨some 41, none, .bin .sub (.k (.int .i64 64)) (.t 40)⟩,
                    ⟨some 42, none, .bin .shl (.t 38) (.t 41)⟩,
                    ⟨some 43, none, .mv (.t 1)⟩,
                    ⟨some 44, none, .bin .mul (.k (.int .i64 8)) (.t 43)⟩,
                    ⟨some 45, none, .bin .sub (.k (.int .i64 64)) (.t 44)⟩,
                    ⟨some 46, none, .bin .shr (.t 42) (.t 45)⟩,
                    ⟨some 47, none, .bslice 6 1 1 [.int .u64 0] [(0, .t 46)]⟩,
                    ⟨some 48, none, .app 6 1 (.t 36) (.t 47)⟩,
                    ⟨some 8, none, .mv (.t 48)⟩])))))
              (.keep [0, 1, 8, 18, 19, 20]
               (.ops [⟨some 49, none, .bin .add (.t 20) (.k (.int .i64 1))⟩,
                 ⟨some 20, none, .mv (.t 49)⟩]))))))))))
      (.keep [0, 1, 8]
       (.seq
        (.ops [⟨some 50, none, .mv (.t 0)⟩,
          ⟨some 51, none, .mv (.t 1)⟩,
          ⟨some 52, none, .mv (.t 8)⟩,
          ⟨some 53, none, .call 54 [.t 50, .t 51, .t 52]⟩,
          ⟨some 54, none, .ext (.t 53) 0⟩,
          ⟨some 55, none, .ext (.t 53) 1⟩,
          ⟨some 6, none, .mv (.t 54)⟩,
          ⟨some 7, none, .mv (.t 55)⟩])
        (.keep [6, 7]
         .ret)))))))) }
structure N71 (R : Env) : Prop where
  o71 : R.Fn 71 c71
  n54 : N54 R
def c76 : IFn := { np := 2, rs := [.t 4], body :=
 (.seq
  (.ops [⟨some 4, none, .mv (.k (.int .i64 0))⟩])
  (.seq
   (.ops [⟨some 6, none, .mv (.t 0)⟩,
     ⟨some 7, none, .mv (.t 1)⟩,
     ⟨some 8, none, .call 57 [.t 6, .t 7]⟩,
     ⟨some 5, none, .mv (.t 8)⟩])
   (.seq
    (.seq
     (.ops [⟨some 9, none, .mv (.t 1)⟩,
       ⟨some 10, none, .bin .lss (.t 9) (.k (.int .i64 1))⟩,
       ⟨some 11, none, .mv (.t 10)⟩,
       ⟨some 12, some (11, false), .mv (.t 1)⟩,
       ⟨some 13, some (11, false), .bin .gtr (.t 12) (.k (.int .i64 8))⟩,
       ⟨some 14, none, .pick (.t 11) (.k (.bool true)) (.t 13)⟩])
     (.keep [1, 5, 14]
      (.cond (.t 14)
       (.seq
        (.ops [⟨some 4, none, .mv (.k (.int .i64 0))⟩])
        .ret)
       .skip)))
    (.keep [1, 5]
     (.seq
      (.ops [⟨some 15, none, .mv (.t 5)⟩,
        ⟨some 16, none, .conv .i64 (.t 15)⟩,
        ⟨some 17, none, .mv (.t 1)⟩,
        ⟨some 18, none, .bin .mul (.k (.int .i64 8)) (.t 17)⟩,
        ⟨some 19, none, .bin .sub (.k (.int .i64 64)) (.t 18)⟩,
        ⟨some 20, none, .bin .shl (.t 16) (.t 19)⟩,
        ⟨some 21, none, .mv (.t 1)⟩,
        ⟨some 22, none, .bin .mul (.k (.int .i64 8)) (.t 21)⟩,
        ⟨some 23, none, .bin .sub (.k (.int .i64 64)) (.t 22)⟩,
        ⟨some 24, none, .bin .shr (.t 20) (.t 23)⟩,
        ⟨some 4, none, .mv (.t 24)⟩])
      (.keep [4]
       .ret)))))) }
structure N76 (R : Env) : Prop where
  o76 : R.Fn 76 c76
  n57 : N57 R
end Go.UM

namespace Go.UM
open Go.AM
def c37 : IFn := { np := 1, rs := [.t 2], body :=
 (.seq
  (.ops [⟨some 2, none, .mv (.k (.int .i64 0))⟩])
  (.seq
   (.ops [⟨some 4, none, .build [.int .i64 0, .int .i64 0, .int .i64 0, .int .i64 0, .int .i64 0] [(1, 1, .k (.int .i64 2048)), (2, 1, .k (.int .i64 1024)), (3, 1, .k (.int .i64 64)), (4, 1, .k (.int .i64 64))]⟩,
     ⟨some 3, none, .alloc 5 [.int .i64 0, .int .i64 0, .int .i64 0, .int .i64 0, .int .i64 0]⟩,
     ⟨none, none, .store 5 (.t 3) (.t 4)⟩])
   (.seq
    (.seq
     (.ops [⟨some 5, none, .mv (.t 0)⟩,
       ⟨some 6, none, .bin .lss (.t 5) (.k (.int .i64 0))⟩,
       ⟨some 7, none, .mv (.t 6)⟩,
       ⟨some 8, some (7, false), .mv (.t 0)⟩,
       ⟨some 9, some (7, false), .bin .geq (.t 8) (.k (.int .i64 5))⟩,
       ⟨some 10, none, .pick (.t 7) (.k (.bool true)) (.t 9)⟩])
     (.keep [0, 3, 10]
      (.cond (.t 10)
       (.seq
        (.ops [⟨some 2, none, .mv (.k (.int .i64 0))⟩])
        .ret)
       .skip)))
    (.keep [0, 3]
     (.seq
      (.ops [⟨some 11, none, .mv (.t 0)⟩,
        ⟨some 12, none, .idxA 5 1 (.t 3) (.t 11)⟩,
        ⟨some 13, none, .load false 1 (.t 12)⟩,
        ⟨some 2, none, .mv (.t 13)⟩])
      .ret))))) }
structure N37 (R : Env) : Prop where
  o37 : R.Fn 37 c37
end Go.UM

namespace Go.UM
open Go.AM
def c206 : IFn := { np := 1, rs := [.t 2], body :=
 (.seq
  (.ops [⟨some 1, none, .box 26 (.t 0)⟩,
    ⟨some 2, none, .mv (.k (.bool false))⟩])
  (.seq
   (.ops [⟨some 3, none, .fldA 0 (.t 1)⟩,
     ⟨some 4, none, .load false 1 (.t 3)⟩,
     ⟨some 5, none, .fldA 1 (.t 1)⟩,
     ⟨some 6, none, .load false 1 (.t 5)⟩,
     ⟨some 7, none, .fldA 2 (.t 1)⟩,
     ⟨some 8, none, .load false 1 (.t 7)⟩,
     ⟨some 9, none, .mm true [.t 4, .t 6, .t 8]⟩,
     ⟨some 10, none, .bin .gtr (.t 9) (.k (.int .i64 4096))⟩,
     ⟨some 11, none, .mv (.t 10)⟩,
     ⟨some 12, some (11, false), .fldA 0 (.t 1)⟩,
     ⟨some 13, some (11, false), .load false 1 (.t 12)⟩,
     ⟨some 14, some (11, false), .fldA 1 (.t 1)⟩,
     ⟨some 15, some (11, false), .load false 1 (.t 14)⟩,
     ⟨some 16, some (11, false), .fldA 2 (.t 1)⟩,
     ⟨some 17, some (11, false), .load false 1 (.t 16)⟩,
     ⟨some 18, some (11, false), .mm false [.t 13, .t 15, .t 17]⟩,
     ⟨some 19, some (11, false), .bin .lss (.t 18) (.k (.int .i64 (-4096)))⟩,
     ⟨some 20, none, .pick (.t 11) (.k (.bool true)) (.t 19)⟩,
     ⟨some 2, none, .mv (.t 20)⟩])
   (.keep [2]
    .ret))) }
structure N206 (R : Env) : Prop where
  o206 : R.Fn 206 c206
def c207 : IFn := { np := 1, rs := [.t 2], body :=
 (.seq
  (.ops [⟨some 1, none, .box 18 (.t 0)⟩,
    ⟨some 2, none, .mv (.k (.bool false))⟩])
  (.seq
   (.ops [⟨some 3, none, .idxA 2 1 (.t 1) (.k (.int .i64 0))⟩,
     ⟨some 4, none, .load false 1 (.t 3)⟩,
     ⟨some 5, none, .idxA 2 1 (.t 1) (.k (.int .i64 1))⟩,
     ⟨some 6, none, .load false 1 (.t 5)⟩,
     ⟨some 7, none, .mm false [.t 4, .t 6]⟩,
     ⟨some 8, none, .bin .lss (.t 7) (.k (.int .i64 0))⟩,
     ⟨some 9, none, .mv (.t 8)⟩,
     ⟨some 10, some (9, false), .idxA 2 1 (.t 1) (.k (.int .i64 0))⟩,
     ⟨some 11, some (9, false), .load false 1 (.t 10)⟩,
     ⟨some 12, some (9, false), .idxA 2 1 (.t 1) (.k (.int .i64 1))⟩,
     ⟨some 13, some (9, false), .load false 1 (.t 12)⟩,
     ⟨some 14, some (9, false), .mm true [.t 11, .t 13]⟩,
     ⟨some 15, some (9, false), .bin .gtr (.t 14) (.k (.int .i64 65535))⟩,
     ⟨some 16, none, .pick (.t 9) (.k (.bool true)) (.t 15)⟩,
     ⟨some 2, none, .mv (.t 16)⟩])
   (.keep [2]
    .ret))) }
structure N207 (R : Env) : Prop where
  o207 : R.Fn 207 c207
def c208 : IFn := { np := 2, rs := [.t 3], body :=
 (.seq
  (.ops [⟨some 2, none, .box 13 (.t 0)⟩,
    ⟨some 3, none, .mv (.k (.bool false))⟩])
  (.seq
   (.ops [⟨some 4, none, .idxA 3 1 (.t 2) (.k (.int .i64 0))⟩,
     ⟨some 5, none, .load false 1 (.t 4)⟩,
     ⟨some 6, none, .idxA 3 1 (.t 2) (.k (.int .i64 1))⟩,
     ⟨some 7, none, .load false 1 (.t 6)⟩,
     ⟨some 8, none, .idxA 3 1 (.t 2) (.k (.int .i64 2))⟩,
     ⟨some 9, none, .load false 1 (.t 8)⟩,
     ⟨some 10, none, .mm false [.t 5, .t 7, .t 9]⟩,
     ⟨some 11, none, .bin .lss (.t 10) (.k (.int .i64 0))⟩,
     ⟨some 12, none, .mv (.t 11)⟩,
     ⟨some 13, some (12, false), .idxA 3 1 (.t 2) (.k (.int .i64 0))⟩,
     ⟨some 14, some (12, false), .load false 1 (.t 13)⟩,
     ⟨some 15, some (12, false), .idxA 3 1 (.t 2) (.k (.int .i64 1))⟩,
     ⟨some 16, some (12, false), .load false 1 (.t 15)⟩,
     ⟨some 17, some (12, false), .idxA 3 1 (.t 2) (.k (.int .i64 2))⟩,
     ⟨some 18, some (12, false), .load false 1 (.t 17)⟩,
     ⟨some 19, some (12, false), .mm true [.t 14, .t 16, .t 18]⟩,
     ⟨some 20, some (12, false), .fldA 0 (.t 1)⟩,
     ⟨some 21, some (12, false), .load false 1 (.t 20)⟩,
     ⟨some 22, some (12, false), .lenS (.t 21)⟩,
     ⟨some 23, some (12, false), .bin .geq (.t 19) (.t 22)⟩,
     ⟨some 24, none, .pick (.t 12) (.k (.bool true)) (.t 23)⟩,
     ⟨some 25, none, .mv (.t 24)⟩,
     ⟨some 26, some (25, false), .idxA 3 1 (.t 2) (.k (.int .i64 0))⟩,
     ⟨some 27, some (25, false), .load false 1 (.t 26)⟩,
     ⟨some 28, some (25, false), .idxA 3 1 (.t 2) (.k (.int .i64 1))⟩,
     ⟨some 29, some (25, false), .load false 1 (.t 28)⟩,
     ⟨some 30, some (25, false), .bin .eql (.t 27) (.t 29)⟩,
     ⟨some 31, none, .pick (.t 25) (.k (.bool true)) (.t 30)⟩,
     ⟨some 32, none, .mv (.t 31)⟩,
     ⟨some 33, some (32, false), .idxA 3 1 (.t 2) (.k (.int .i64 1))⟩,
     ⟨some 34, some (32, false), .load false 1 (.t 33)⟩,
     ⟨some 35, some (32, false), .idxA 3 1 (.t 2) (.k (.int .i64 2))⟩,
     ⟨some 36, some (32, false), .load false 1 (.t 35)⟩,
     ⟨some 37, some (32, false), .bin .eql (.t 34) (.t 36)⟩,
     ⟨some 38, none, .pick (.t 32) (.k (.bool true)) (.t 37)⟩,
     ⟨some 39, none, .mv (.t 38)⟩,
     ⟨some 40, some (39, false), .idxA 3 1 (.t 2) (.k (.int .i64 2))⟩,
     ⟨some 41, some (39, false), .load false 1 (.t 40)⟩,
     ⟨some 42, some (39, false), .idxA 3 1 (.t 2) (.k (.int .i64 0))⟩,
     ⟨some 43, some (39, false), .load false 1 (.t 42)⟩,
     ⟨some 44, some (39, false), .bin .eql (.t 41) (.t 43)⟩,
     ⟨some 45, none, .pick (.t 39) (.k (.bool true)) (.t 44)⟩,
     ⟨some 3, none, .mv (.t 45)⟩])
   (.keep [3]
    .ret))) }
structure N208 (R : Env) : Prop where
  o208 : R.Fn 208 c208
def c193 : IFn := { np := 1, rs := [.t 2], body :=
 (.seq
  (.ops [⟨some 1, none, .box 25 (.t 0)⟩,
    ⟨some 2, none, .mv (.k (.int .i64 0))⟩])
  (.seq
   (.ops [⟨some 3, none, .mv (.f 206)⟩])
   (.seq
    (.ops [⟨some 4, none, .mv (.f 207)⟩])
    (.seq
     (.ops [⟨some 6, none, .mkf 208 [.t 1]⟩,
       ⟨some 5, none, .mv (.t 6)⟩])
     (.seq
      (.block 0
       (.seq
        (.ops [⟨some 8, none, .fldA 0 (.t 1)⟩,
          ⟨some 9, none, .load false 1 (.t 8)⟩,
          ⟨some 10, none, .lenS (.t 9)⟩,
          ⟨some 11, none, .bin .gtr (.t 10) (.k (.int .i64 64))⟩,
          ⟨some 12, none, .mv (.t 11)⟩,
          ⟨some 13, some (12, false), .fldA 2 (.t 1)⟩,
          ⟨some 14, some (12, false), .load false 1 (.t 13)⟩,
          ⟨some 15, some (12, false), .lenS (.t 14)⟩,
          ⟨some 16, some (12, false), .bin .gtr (.t 15) (.k (.int .i64 64))⟩,
          ⟨some 17, none, .pick (.t 12) (.k (.bool true)) (.t 16)⟩,
          ⟨some 7, none, .mv (.t 17)⟩])
        (.keep [1, 3, 4, 5, 7]
         (.cond (.t 7)
          (.seq
           (.ops [⟨some 2, none, .mv (.k (.int .i64 3))⟩])
           .ret)
          (.seq
           (.ops [⟨some 19, none, .fldA 0 (.t 1)⟩,
             ⟨some 20, none, .load false 1 (.t 19)⟩,
             ⟨some 21, none, .lenS (.t 20)⟩,
             ⟨some 22, none, .bin .eql (.t 21) (.k (.int .i64 0))⟩,
             ⟨some 23, none, .mv (.t 22)⟩,
             ⟨some 24, some (23, false), .fldA 2 (.t 1)⟩,
             ⟨some 25, some (23, false), .load false 1 (.t 24)⟩,
             ⟨some 26, some (23, false), .lenS (.t 25)⟩,
             ⟨some 27, some (23, false), .bin .eql (.t 26) (.k (.int .i64 0))⟩,
             ⟨some 28, none, .pick (.t 23) (.k (.bool true)) (.t 27)⟩,
             ⟨some 29, none, .mv (.t 28)⟩,
             ⟨some 30, some (29, false), .fldA 1 (.t 1)⟩,
             ⟨some 31, some (29, false), .load false 1 (.t 30)⟩,
             ⟨some 32, some (29, false), .lenS (.t 31)⟩,
             ⟨some 33, some (29, false), .fldA 0 (.t 1)⟩,
             ⟨some 34, some (29, false), .load false 1 (.t 33)⟩,
             ⟨some 35, some (29, false), .lenS (.t 34)⟩,
             ⟨some 36, some (29, false), .bin .neq (.t 32) (.t 35)⟩,
             ⟨some 37, none, .pick (.t 29) (.k (.bool true)) (.t 36)⟩,
             ⟨some 18, none, .mv (.t 37)⟩])
           (.keep [1, 3, 4, 5, 18]
            (.cond (.t 18)
             (.seq
              (.ops [⟨some 2, none, .mv (.k (.int .i64 5))⟩])
              .ret)
             (.seq
              (.ops [⟨some 39, none, .fldA 0 (.t 1)⟩,
                ⟨some 40, none, .load false 1 (.t 39)⟩,
                ⟨some 41, none, .mv (.t 3)⟩,
                ⟨some 42, none, .call 209 [.t 40, .t 41]⟩,
                ⟨some 38, none, .mv (.t 42)⟩])
              (.keep [1, 4, 5, 38]
               (.cond (.t 38)
                (.seq
                 (.ops [⟨some 2, none, .mv (.k (.int .i64 8))⟩])
                 .ret)
                (.seq
                 (.ops [⟨some 44, none, .fldA 1 (.t 1)⟩,
                   ⟨some 45, none, .load false 1 (.t 44)⟩,
                   ⟨some 46, none, .mv (.t 4)⟩,
                   ⟨some 47, none, .call 210 [.t 45, .t 46]⟩,
                   ⟨some 48, none, .mv (.t 47)⟩,
                   ⟨some 49, some (48, false), .fldA 2 (.t 1)⟩,
                   ⟨some 50, some (48, false), .load false 1 (.t 49)⟩,
                   ⟨some 51, some (48, false), .mv (.t 5)⟩,
                   ⟨some 52, some (48, false), .call 211 [.t 50, .t 51]⟩,
                   ⟨some 53, none, .pick (.t 48) (.k (.bool true)) (.t 52)⟩,
                   ⟨some 43, none, .mv (.t 53)⟩])
                 (.keep [43]
                  (.cond (.t 43)
                   (.seq
                    (.ops [⟨some 2, none, .mv (.k (.int .i64 5))⟩])
                    .ret)
                   .skip)))))))))))))
      (.keep []
       (.seq
        (.ops [⟨some 2, none, .mv (.k (.int .i64 0))⟩])
        .ret))))))) }
structure N193 (R : Env) : Prop where
  o193 : R.Fn 193 c193
  n206 : N206 R
  n207 : N207 R
  n208 : N208 R
  n209 : N209 R
  n210 : N210 R
  n211 : N211 R
def c196 : IFn := { np := 1, rs := [.t 2, .t 3], body :=
 (.seq
  (.ops [⟨some 1, none, .box 25 (.t 0)⟩,
    ⟨some 2, none, .mv (.k (.nils))⟩,
    ⟨some 3, none, .mv (.k (.int .i64 0))⟩])
  (.seq
   (.seq
    (.ops [⟨some 12, none, .load true 3 (.t 1)⟩,
      ⟨some 13, none, .call 193 [.t 12]⟩,
      ⟨some 4, none, .mv (.t 13)⟩])
    (.seq
     (.ops [⟨some 14, none, .mv (.t 4)⟩,
       ⟨some 15, none, .bin .neq (.t 14) (.k (.int .i64 0))⟩])
     (.cond (.t 15)
      (.seq
       (.ops [⟨some 16, none, .mv (.t 4)⟩,
         ⟨some 2, none, .mv (.k (.nils))⟩,
         ⟨some 3, none, .mv (.t 16)⟩])
       .ret)
      .skip)))
   (.keep [1]
    (.seq
     (.ops [⟨some 17, none, .fldA 0 (.t 1)⟩,
       ⟨some 18, none, .load false 1 (.t 17)⟩,
       ⟨some 19, none, .lenS (.t 18)⟩,
       ⟨some 20, none, .conv .u8 (.t 19)⟩,
       ⟨some 21, none, .fldA 2 (.t 1)⟩,
       ⟨some 22, none, .load false 1 (.t 21)⟩,
       ⟨some 23, none, .lenS (.t 22)⟩,
       ⟨some 24, none, .conv .u8 (.t 23)⟩,
       ⟨some 25, none, .bslice 4 1 2 [.int .u8 0] [(0, .t 20), (1, .t 24)]⟩,
       ⟨some 5, none, .mv (.t 25)⟩])
     (.keep [1, 5]
      (.seq
       (.seq
        (.ops [⟨some 26, none, .fldA 0 (.t 1)⟩,
          ⟨some 27, none, .load false 1 (.t 26)⟩,
          ⟨some 28, none, .lenS (.t 27)⟩,
          ⟨some 29, none, .mv (.k (.int .i64 0))⟩])
        (.keep [1, 5, 27, 28, 29]
         (.block 0
          (.loop
           (.seq
            (.ops [⟨some 30, none, .bin .lss (.t 29) (.t 28)⟩])
            (.seq
             (.cond (.t 30)
              .skip
              (.exit 0))
             (.keep [1, 5, 27, 28, 29]
              (.seq
               (.block 1
                (.seq
                 (.ops [⟨some 31, none, .idxS 3 (.t 27) (.t 29)⟩,
                   ⟨some 32, none, .load true 3 (.t 31)⟩,
                   ⟨some 7, none, .alloc 26 [.int .i64 0, .int .i64 0, .int .i64 0]⟩,
                   ⟨none, none, .store 3 (.t 7) (.t 32)⟩])
                 (.ops [⟨some 34, none, .mv (.t 5)⟩,
                   ⟨some 35, none, .fldA 0 (.t 7)⟩,
                   ⟨some 36, none, .load false 1 (.t 35)⟩,
                   ⟨some 37, none, .fldA 1 (.t 7)⟩,
                   ⟨some 38, none, .load false 1 (.t 37)⟩,
                   ⟨some 39, none, .fldA 2 (.t 7)⟩,
                   ⟨some 40, none, .load false 1 (.t 39)⟩,
                   ⟨some 41, none, .bslice 10 1 3 [.int .i64 0] [(0, .t 36), (1, .t 38), (2, .t 40)]⟩,
                   ⟨some 42, none, .call 71 [.t 34, .k (.int .i64 2), .t 41]⟩,
                   ⟨some 33, none, .mv (.t 42)⟩,
                   ⟨some 43, none, .ext (.t 33) 0⟩,
                   ⟨some 44, none, .ext (.t 33) 1⟩,
                   ⟨some 5, none, .mv (.t 43)⟩])))
               (.keep [1, 5, 27, 28, 29]
                (.ops [⟨some 45, none, .bin .add (.t 29) (.k (.int .i64 1))⟩,
                  ⟨some 29, none, .mv (.t 45)⟩]))))))))))
       (.keep [1, 5]
        (.seq
         (.seq
          (.ops [⟨some 46, none, .fldA 1 (.t 1)⟩,
            ⟨some 47, none, .load false 1 (.t 46)⟩,
            ⟨some 48, none, .lenS (.t 47)⟩,
            ⟨some 49, none, .mv (.k (.int .i64 0))⟩])
          (.keep [1, 5, 47, 48, 49]
           (.block 2
            (.loop
             (.seq
              (.ops [⟨some 50, none, .bin .lss (.t 49) (.t 48)⟩])
              (.seq
               (.cond (.t 50)
                .skip
                (.exit 2))
               (.keep [1, 5, 47, 48, 49]
                (.seq
                 (.block 3
                  (.seq
                   (.ops [⟨some 51, none, .idxS 2 (.t 47) (.t 49)⟩,
                     ⟨some 52, none, .load true 2 (.t 51)⟩,
                     ⟨some 9, none, .alloc 18 [.int .i64 0, .int .i64 0]⟩,
                     ⟨none, none, .store 2 (.t 9) (.t 52)⟩])
                   (.ops [⟨some 54, none, .mv (.t 5)⟩,
                     ⟨some 55, none, .idxA 2 1 (.t 9) (.k (.int .i64 0))⟩,
                     ⟨some 56, none, .load false 1 (.t 55)⟩,
                     ⟨some 57, none, .conv .u64 (.t 56)⟩,
                     ⟨some 58, none, .idxA 2 1 (.t 9) (.k (.int .i64 1))⟩,
                     ⟨some 59, none, .load false 1 (.t 58)⟩,
                     ⟨some 60, none, .conv .u64 (.t 59)⟩,
                     ⟨some 61, none, .bslice 6 1 2 [.int .u64 0] [(0, .t 57), (1, .t 60)]⟩,
                     ⟨some 62, none, .call 54 [.t 54, .k (.int .i64 2), .t 61]⟩,
                     ⟨some 53, none, .mv (.t 62)⟩,
                     ⟨some 63, none, .ext (.t 53) 0⟩,
                     ⟨some 64, none, .ext (.t 53) 1⟩,
                     ⟨some 5, none, .mv (.t 63)⟩])))
                 (.keep [1, 5, 47, 48, 49]
                  (.ops [⟨some 65, none, .bin .add (.t 49) (.k (.int .i64 1))⟩,
                    ⟨some 49, none, .mv (.t 65)⟩]))))))))))
         (.keep [1, 5]
          (.seq
           (.seq
            (.ops [⟨some 66, none, .fldA 2 (.t 1)⟩,
              ⟨some 67, none, .load false 1 (.t 66)⟩,
              ⟨some 68, none, .lenS (.t 67)⟩,
              ⟨some 69, none, .mv (.k (.int .i64 0))⟩])
            (.keep [5, 67, 68, 69]
             (.block 4
              (.loop
               (.seq
                (.ops [⟨some 70, none, .bin .lss (.t 69) (.t 68)⟩])
                (.seq
                 (.cond (.t 70)
                  .skip
                  (.exit 4))
                 (.keep [5, 67, 68, 69]
                  (.seq
                   (.block 5
                    (.seq
                     (.ops [⟨some 71, none, .idxS 3 (.t 67) (.t 69)⟩,
                       ⟨some 72, none, .load true 3 (.t 71)⟩,
                       ⟨some 11, none, .alloc 13 [.int .i64 0, .int .i64 0, .int .i64 0]⟩,
                       ⟨none, none, .store 3 (.t 11) (.t 72)⟩])
                     (.ops [⟨some 73, none, .mv (.t 5)⟩,
                       ⟨some 74, none, .idxA 3 1 (.t 11) (.k (.int .i64 0))⟩,
                       ⟨some 75, none, .load false 1 (.t 74)⟩,
                       ⟨some 76, none, .conv .u8 (.t 75)⟩,
                       ⟨some 77, none, .idxA 3 1 (.t 11) (.k (.int .i64 1))⟩,
                       ⟨some 78, none, .load false 1 (.t 77)⟩,
                       ⟨some 79, none, .conv .u8 (.t 78)⟩,
                       ⟨some 80, none, .idxA 3 1 (.t 11) (.k (.int .i64 2))⟩,
                       ⟨some 81, none, .load false 1 (.t 80)⟩,
                       ⟨some 82, none, .conv .u8 (.t 81)⟩,
                       ⟨some 83, none, .bslice 4 1 3 [.int .u8 0] [(0, .t 76), (1, .t 79), (2, .t 82)]⟩,
                       ⟨some 84, none, .app 4 1 (.t 73) (.t 83)⟩,
                       ⟨some 5, none, .mv (.t 84)⟩])))
                   (.keep [5, 67, 68, 69]
                    (.ops [⟨some 85, none, .bin .add (.t 69) (.k (.int .i64 1))⟩,
                      ⟨some 69, none, .mv (.t 85)⟩]))))))))))
           (.keep [5]
            (.seq
             (.ops [⟨some 86, none, .mv (.t 5)⟩,
               ⟨some 2, none, .mv (.t 86)⟩,
               ⟨some 3, none, .mv (.k (.int .i64 0))⟩])
             .ret)))))))))))) }
structure N196 (R : Env) : Prop where
  o196 : R.Fn 196 c196
  n54 : N54 R
  n71 : N71 R
  n193 : N193 R
def c214 : IFn := { np := 2, rs := [.t 4], body :=
 (.seq
  (.ops [⟨some 2, none, .box 30 (.t 0)⟩,
    ⟨some 4, none, .mv (.k (.int .i64 0))⟩])
  (.seq
   (.ops [⟨some 5, none, .fldA 0 (.t 2)⟩,
     ⟨some 6, none, .load false 1 (.t 5)⟩,
     ⟨some 7, none, .mv (.t 1)⟩,
     ⟨some 8, none, .call 57 [.t 6, .t 7]⟩,
     ⟨some 9, none, .conv .i64 (.t 8)⟩,
     ⟨some 4, none, .mv (.t 9)⟩])
   (.keep [4]
    .ret))) }
structure N214 (R : Env) : Prop where
  o214 : R.Fn 214 c214
  n57 : N57 R
def c215 : IFn := { np := 1, rs := [.cell 2 true 3], body :=
 (.seq
  (.ops [⟨some 1, none, .box 30 (.t 0)⟩,
    ⟨some 2, none, .alloc 26 [.int .i64 0, .int .i64 0, .int .i64 0]⟩])
  (.seq
   (.draw [0, 1, 3, 0, 8, 31, 0, 64, 255, 511, 1023] [[1], [3], [4], [1], [6], [7], [1], [9], [10], [5, 8, 11], [2, 12]] [⟨some 3, none, .fldA 0 (.t 1)⟩,
     ⟨some 4, none, .load false 1 (.t 3)⟩,
     ⟨some 5, none, .call 76 [.t 4, .k (.int .i64 2)]⟩,
     ⟨some 6, none, .fldA 0 (.t 1)⟩,
     ⟨some 7, none, .load false 1 (.t 6)⟩,
     ⟨some 8, none, .call 76 [.t 7, .k (.int .i64 2)]⟩,
     ⟨some 9, none, .fldA 0 (.t 1)⟩,
     ⟨some 10, none, .load false 1 (.t 9)⟩,
     ⟨some 11, none, .call 76 [.t 10, .k (.int .i64 2)]⟩,
     ⟨some 12, none, .build [.int .i64 0, .int .i64 0, .int .i64 0] [(0, 1, .t 5), (1, 1, .t 8), (2, 1, .t 11)]⟩,
     ⟨none, none, .store 3 (.t 2) (.t 12)⟩])
   (.keep [2]
    .ret))) }
structure N215 (R : Env) : Prop where
  o215 : R.Fn 215 c215
  n76 : N76 R
def c202 : IFn := { np := 1, rs := [.cell 2 true 3, .t 3], body :=
 (.seq
  (.ops [⟨some 2, none, .alloc 25 [.nils, .nils, .nils]⟩,
    ⟨some 3, none, .mv (.k (.int .i64 0))⟩])
  (.seq
   (.ops [⟨some 10, none, .mv (.t 0)⟩,
     ⟨some 11, none, .call 56 [.t 10]⟩,
     ⟨some 12, none, .build [.nilp] [(0, 1, .t 11)]⟩,
     ⟨some 4, none, .alloc 30 [.nilp]⟩,
     ⟨none, none, .store 1 (.t 4) (.t 12)⟩])
   (.keep [2, 4]
    (.seq
     (.draw [0, 1, 0, 7, 15, 31] [[4], [13], [4], [15], [14], [16]] [⟨some 13, none, .load true 1 (.t 4)⟩,
       ⟨some 14, none, .call 214 [.t 13, .k (.int .i64 1)]⟩,
       ⟨some 15, none, .load true 1 (.t 4)⟩,
       ⟨some 16, none, .call 214 [.t 15, .k (.int .i64 1)]⟩,
       ⟨some 5, none, .mv (.t 14)⟩,
       ⟨some 6, none, .mv (.t 16)⟩])
     (.keep [2, 4, 5, 6]
      (.seq
       (.ops [⟨some 7, none, .alloc 25 [.nils, .nils, .nils]⟩])
       (.seq
        (.seq
         (.ops [⟨some 17, none, .mv (.t 5)⟩,
           ⟨some 18, none, .mv (.k (.int .i64 0))⟩])
         (.keep [2, 4, 5, 6, 7, 17, 18]
          (.block 0
           (.loop
            (.seq
             (.ops [⟨some 19, none, .bin .lss (.t 18) (.t 17)⟩])
             (.seq
              (.cond (.t 19)
               .skip
               (.exit 0))
              (.keep [2, 4, 5, 6, 7, 17, 18]
               (.seq
                (.block 1
                 (.draw [0, 1, 0, 4, 12, 31, 63, 127] [[7], [20], [4], [22], [23], [21, 24], [7], [26, 25]] [⟨some 20, none, .fldA 0 (.t 7)⟩,
                   ⟨some 21, none, .load false 1 (.t 20)⟩,
                   ⟨some 22, none, .load true 1 (.t 4)⟩,
                   ⟨some 23, none, .call 215 [.t 22]⟩,
                   ⟨some 24, none, .bslice 26 3 1 [.int .i64 0, .int .i64 0, .int .i64 0] [(0, .t 23)]⟩,
                   ⟨some 25, none, .app 26 3 (.t 21) (.t 24)⟩,
                   ⟨some 26, none, .fldA 0 (.t 7)⟩,
                   ⟨none, none, .store 1 (.t 26) (.t 25)⟩]))
                (.keep [2, 4, 5, 6, 7, 17, 18]
                 (.ops [⟨some 27, none, .bin .add (.t 18) (.k (.int .i64 1))⟩,
                   ⟨some 18, none, .mv (.t 27)⟩]))))))))))
        (.keep [2, 4, 5, 6, 7]
         (.seq
          (.seq
           (.ops [⟨some 28, none, .mv (.t 5)⟩,
             ⟨some 29, none, .mv (.k (.int .i64 0))⟩])
           (.keep [2, 4, 6, 7, 28, 29]
            (.block 2
             (.loop
              (.seq
               (.ops [⟨some 30, none, .bin .lss (.t 29) (.t 28)⟩])
               (.seq
                (.cond (.t 30)
                 .skip
                 (.exit 2))
                (.keep [2, 4, 6, 7, 28, 29]
                 (.seq
                  (.block 3
                   (.draw [0, 1, 0, 4, 0, 28, 60, 124, 255, 511, 1023] [[7], [31], [4], [33], [4], [35], [34, 36], [37], [32, 38], [7], [40, 39]] [⟨some 31, none, .fldA 1 (.t 7)⟩,
                     ⟨some 32, none, .load false 1 (.t 31)⟩,
                     ⟨some 33, none, .load true 1 (.t 4)⟩,
                     ⟨some 34, none, .call 214 [.t 33, .k (.int .i64 2)]⟩,
                     ⟨some 35, none, .load true 1 (.t 4)⟩,
                     ⟨some 36, none, .call 214 [.t 35, .k (.int .i64 2)]⟩,
                     ⟨some 37, none, .build [.int .i64 0, .int .i64 0] [(0, 1, .t 34), (1, 1, .t 36)]⟩,
                     ⟨some 38, none, .bslice 18 2 1 [.int .i64 0, .int .i64 0] [(0, .t 37)]⟩,
                     ⟨some 39, none, .app 18 2 (.t 32) (.t 38)⟩,
                     ⟨some 40, none, .fldA 1 (.t 7)⟩,
                     ⟨none, none, .store 1 (.t 40) (.t 39)⟩]))
                  (.keep [2, 4, 6, 7, 28, 29]
                   (.ops [⟨some 41, none, .bin .add (.t 29) (.k (.int .i64 1))⟩,
                     ⟨some 29, none, .mv (.t 41)⟩]))))))))))
          (.keep [2, 4, 6, 7]
           (.seq
            (.seq
             (.ops [⟨some 42, none, .mv (.t 6)⟩,
               ⟨some 43, none, .mv (.k (.int .i64 0))⟩])
             (.keep [2, 4, 7, 42, 43]
              (.block 4
               (.loop
                (.seq
                 (.ops [⟨some 44, none, .bin .lss (.t 43) (.t 42)⟩])
                 (.seq
                  (.cond (.t 44)
                   .skip
                   (.exit 4))
                  (.keep [2, 4, 7, 42, 43]
                   (.seq
                    (.block 5
                     (.draw [0, 1, 0, 4, 0, 28, 0, 124, 252, 508, 1023, 2047, 4095] [[7], [45], [4], [47], [4], [49], [4], [51], [48, 50, 52], [53], [46, 54], [7], [56, 55]] [⟨some 45, none, .fldA 2 (.t 7)⟩,
                       ⟨some 46, none, .load false 1 (.t 45)⟩,
                       ⟨some 47, none, .load true 1 (.t 4)⟩,
                       ⟨some 48, none, .call 214 [.t 47, .k (.int .i64 1)]⟩,
                       ⟨some 49, none, .load true 1 (.t 4)⟩,
                       ⟨some 50, none, .call 214 [.t 49, .k (.int .i64 1)]⟩,
                       ⟨some 51, none, .load true 1 (.t 4)⟩,
                       ⟨some 52, none, .call 214 [.t 51, .k (.int .i64 1)]⟩,
                       ⟨some 53, none, .build [.int .i64 0, .int .i64 0, .int .i64 0] [(0, 1, .t 48), (1, 1, .t 50), (2, 1, .t 52)]⟩,
                       ⟨some 54, none, .bslice 13 3 1 [.int .i64 0, .int .i64 0, .int .i64 0] [(0, .t 53)]⟩,
                       ⟨some 55, none, .app 13 3 (.t 46) (.t 54)⟩,
                       ⟨some 56, none, .fldA 2 (.t 7)⟩,
                       ⟨none, none, .store 1 (.t 56) (.t 55)⟩]))
                    (.keep [2, 4, 7, 42, 43]
                     (.ops [⟨some 57, none, .bin .add (.t 43) (.k (.int .i64 1))⟩,
                       ⟨some 43, none, .mv (.t 57)⟩]))))))))))
            (.keep [2, 4, 7]
             (.seq
              (.seq
               (.ops [⟨some 58, none, .fldA 0 (.t 4)⟩,
                 ⟨some 59, none, .load false 1 (.t 58)⟩,
                 ⟨some 60, none, .call 60 [.t 59]⟩,
                 ⟨some 8, none, .mv (.t 60)⟩])
               (.seq
                (.ops [⟨some 61, none, .mv (.t 8)⟩,
                  ⟨some 62, none, .bin .neq (.t 61) (.k (.int .i64 0))⟩])
                (.cond (.t 62)
                 (.seq
                  (.ops [⟨some 63, none, .build [.nils, .nils, .nils] []⟩,
                    ⟨some 64, none, .mv (.t 8)⟩,
                    ⟨none, none, .store 3 (.t 2) (.t 63)⟩,
                    ⟨some 3, none, .mv (.t 64)⟩])
                  .ret)
                 .skip)))
              (.keep [2, 7]
               (.seq
                (.seq
                 (.ops [⟨some 65, none, .load true 3 (.t 7)⟩,
                   ⟨some 66, none, .call 193 [.t 65]⟩,
                   ⟨some 9, none, .mv (.t 66)⟩])
                 (.seq
                  (.ops [⟨some 67, none, .mv (.t 9)⟩,
                    ⟨some 68, none, .bin .neq (.t 67) (.k (.int .i64 0))⟩])
                  (.cond (.t 68)
                   (.seq
                    (.ops [⟨some 69, none, .build [.nils, .nils, .nils] []⟩,
                      ⟨some 70, none, .mv (.t 9)⟩,
                      ⟨none, none, .store 3 (.t 2) (.t 69)⟩,
                      ⟨some 3, none, .mv (.t 70)⟩])
                    .ret)
                   .skip)))
                (.keep [2, 7]
                 (.seq
                  (.ops [⟨some 71, none, .load true 3 (.t 7)⟩,
                    ⟨none, none, .store 3 (.t 2) (.t 71)⟩,
                    ⟨some 3, none, .mv (.k (.int .i64 0))⟩])
                  .ret))))))))))))))))) }
structure N202 (R : Env) : Prop where
  o202 : R.Fn 202 c202
  n56 : N56 R
  n60 : N60 R
  n193 : N193 R
  n214 : N214 R
  n215 : N215 R
end Go.UM

namespace Go.UM
open Go.AM
def c84 : IFn := { np := 1, rs := [.t 2], body :=
 (.seq
  (.ops [⟨some 1, none, .box 12 (.t 0)⟩,
    ⟨some 2, none, .mv (.k (.int .i64 0))⟩])
  (.seq
   (.seq
    (.ops [⟨some 5, none, .bslice 10 1 5 [.int .i64 0] [(0, .k (.int .i64 1)), (1, .k (.int .i64 2)), (2, .k (.int .i64 4)), (3, .k (.int .i64 8)), (4, .k (.int .i64 16))]⟩,
      ⟨some 6, none, .fldA 0 (.t 1)⟩,
      ⟨some 7, none, .load false 1 (.t 6)⟩,
      ⟨some 8, none, .call 100 [.t 5, .t 7]⟩,
      ⟨some 9, none, .un .not (.t 8)⟩,
      ⟨some 10, none, .mv (.t 9)⟩,
      ⟨some 11, some (10, false), .fldA 1 (.t 1)⟩,
      ⟨some 12, some (10, false), .load false 1 (.t 11)⟩,
      ⟨some 13, some (10, false), .lenS (.t 12)⟩,
      ⟨some 14, some (10, false), .fldA 0 (.t 1)⟩,
      ⟨some 15, some (10, false), .load false 1 (.t 14)⟩,
      ⟨some 16, some (10, false), .fldA 0 (.t 1)⟩,
      ⟨some 17, some (10, false), .load false 1 (.t 16)⟩,
      ⟨some 18, some (10, false), .bin .mul (.t 15) (.t 17)⟩,
      ⟨some 19, some (10, false), .bin .neq (.t 13) (.t 18)⟩,
      ⟨some 20, none, .pick (.t 10) (.k (.bool true)) (.t 19)⟩])
    (.keep [1, 20]
     (.cond (.t 20)
      (.seq
       (.ops [⟨some 2, none, .mv (.k (.int .i64 5))⟩])
       .ret)
      .skip)))
   (.keep [1]
    (.seq
     (.seq
      (.ops [⟨some 21, none, .fldA 1 (.t 1)⟩,
        ⟨some 22, none, .load false 1 (.t 21)⟩,
        ⟨some 23, none, .lenS (.t 22)⟩,
        ⟨some 24, none, .mv (.k (.int .i64 0))⟩])
      (.keep [22, 23, 24]
       (.block 0
        (.loop
         (.seq
          (.ops [⟨some 25, none, .bin .lss (.t 24) (.t 23)⟩])
          (.seq
           (.cond (.t 25)
            .skip
            (.exit 0))
           (.keep [22, 23, 24]
            (.seq
             (.block 1
              (.seq
               (.ops [⟨some 26, none, .idxS 3 (.t 22) (.t 24)⟩,
                 ⟨some 27, none, .load true 3 (.t 26)⟩,
                 ⟨some 4, none, .alloc 13 [.int .i64 0, .int .i64 0, .int .i64 0]⟩,
                 ⟨none, none, .store 3 (.t 4) (.t 27)⟩])
               (.seq
                (.ops [⟨some 28, none, .idxA 3 1 (.t 4) (.k (.int .i64 0))⟩,
                  ⟨some 29, none, .load false 1 (.t 28)⟩,
                  ⟨some 30, none, .idxA 3 1 (.t 4) (.k (.int .i64 1))⟩,
                  ⟨some 31, none, .load false 1 (.t 30)⟩,
                  ⟨some 32, none, .idxA 3 1 (.t 4) (.k (.int .i64 2))⟩,
                  ⟨some 33, none, .load false 1 (.t 32)⟩,
                  ⟨some 34, none, .mm false [.t 29, .t 31, .t 33]⟩,
                  ⟨some 35, none, .bin .lss (.t 34) (.k (.int .i64 0))⟩,
                  ⟨some 36, none, .mv (.t 35)⟩,
                  ⟨some 37, some (36, false), .idxA 3 1 (.t 4) (.k (.int .i64 0))⟩,
                  ⟨some 38, some (36, false), .load false 1 (.t 37)⟩,
                  ⟨some 39, some (36, false), .idxA 3 1 (.t 4) (.k (.int .i64 1))⟩,
                  ⟨some 40, some (36, false), .load false 1 (.t 39)⟩,
                  ⟨some 41, some (36, false), .idxA 3 1 (.t 4) (.k (.int .i64 2))⟩,
                  ⟨some 42, some (36, false), .load false 1 (.t 41)⟩,
                  ⟨some 43, some (36, false), .mm true [.t 38, .t 40, .t 42]⟩,
                  ⟨some 44, some (36, false), .bin .gtr (.t 43) (.k (.int .i64 255))⟩,
                  ⟨some 45, none, .pick (.t 36) (.k (.bool true)) (.t 44)⟩])
                (.keep [22, 23, 24, 45]
                 (.cond (.t 45)
                  (.seq
                   (.ops [⟨some 2, none, .mv (.k (.int .i64 5))⟩])
                   .ret)
                  .skip)))))
             (.keep [22, 23, 24]
              (.ops [⟨some 46, none, .bin .add (.t 24) (.k (.int .i64 1))⟩,
                ⟨some 24, none, .mv (.t 46)⟩]))))))))))
     (.keep []
      (.seq
       (.ops [⟨some 2, none, .mv (.k (.int .i64 0))⟩])
       .ret)))))) }
structure N84 (R : Env) : Prop where
  o84 : R.Fn 84 c84
  n100 : N100 R
def c82 : IFn := { np := 1, rs := [.t 2, .t 3], body :=
 (.seq
  (.ops [⟨some 1, none, .box 12 (.t 0)⟩,
    ⟨some 2, none, .mv (.k (.nils))⟩,
    ⟨some 3, none, .mv (.k (.int .i64 0))⟩])
  (.seq
   (.seq
    (.ops [⟨some 8, none, .load true 2 (.t 1)⟩,
      ⟨some 9, none, .call 84 [.t 8]⟩,
      ⟨some 4, none, .mv (.t 9)⟩])
    (.seq
     (.ops [⟨some 10, none, .mv (.t 4)⟩,
       ⟨some 11, none, .bin .neq (.t 10) (.k (.int .i64 0))⟩])
     (.cond (.t 11)
      (.seq
       (.ops [⟨some 12, none, .mv (.t 4)⟩,
         ⟨some 2, none, .mv (.k (.nils))⟩,
         ⟨some 3, none, .mv (.t 12)⟩])
       .ret)
      .skip)))
   (.keep [1]
    (.seq
     (.ops [⟨some 13, none, .fldA 0 (.t 1)⟩,
       ⟨some 14, none, .load false 1 (.t 13)⟩,
       ⟨some 15, none, .conv .u8 (.t 14)⟩,
       ⟨some 16, none, .bslice 4 1 1 [.int .u8 0] [(0, .t 15)]⟩,
       ⟨some 5, none, .mv (.t 16)⟩])
     (.keep [1, 5]
      (.seq
       (.seq
        (.ops [⟨some 17, none, .fldA 1 (.t 1)⟩,
          ⟨some 18, none, .load false 1 (.t 17)⟩,
          ⟨some 19, none, .lenS (.t 18)⟩,
          ⟨some 20, none, .mv (.k (.int .i64 0))⟩])
        (.keep [5, 18, 19, 20]
         (.block 0
          (.loop
           (.seq
            (.ops [⟨some 21, none, .bin .lss (.t 20) (.t 19)⟩])
            (.seq
             (.cond (.t 21)
              .skip
              (.exit 0))
             (.keep [5, 18, 19, 20]
              (.seq
               (.block 1
                (.seq
                 (.ops [⟨some 22, none, .idxS 3 (.t 18) (.t 20)⟩,
                   ⟨some 23, none, .load true 3 (.t 22)⟩,
                   ⟨some 7, none, .alloc 13 [.int .i64 0, .int .i64 0, .int .i64 0]⟩,
                   ⟨none, none, .store 3 (.t 7) (.t 23)⟩])
                 (.ops [⟨some 24, none, .mv (.t 5)⟩,
                   ⟨some 25, none, .idxA 3 1 (.t 7) (.k (.int .i64 0))⟩,
                   ⟨some 26, none, .load false 1 (.t 25)⟩,
                   ⟨some 27, none, .conv .u8 (.t 26)⟩,
                   ⟨some 28, none, .idxA 3 1 (.t 7) (.k (.int .i64 1))⟩,
                   ⟨some 29, none, .load false 1 (.t 28)⟩,
                   ⟨some 30, none, .conv .u8 (.t 29)⟩,
                   ⟨some 31, none, .idxA 3 1 (.t 7) (.k (.int .i64 2))⟩,
                   ⟨some 32, none, .load false 1 (.t 31)⟩,
                   ⟨some 33, none, .conv .u8 (.t 32)⟩,
                   ⟨some 34, none, .bslice 4 1 3 [.int .u8 0] [(0, .t 27), (1, .t 30), (2, .t 33)]⟩,
                   ⟨some 35, none, .app 4 1 (.t 24) (.t 34)⟩,
                   ⟨some 5, none, .mv (.t 35)⟩])))
               (.keep [5, 18, 19, 20]
                (.ops [⟨some 36, none, .bin .add (.t 20) (.k (.int .i64 1))⟩,
                  ⟨some 20, none, .mv (.t 36)⟩]))))))))))
       (.keep [5]
        (.seq
         (.ops [⟨some 37, none, .mv (.t 5)⟩,
           ⟨some 2, none, .mv (.t 37)⟩,
           ⟨some 3, none, .mv (.k (.int .i64 0))⟩])
         .ret)))))))) }
structure N82 (R : Env) : Prop where
  o82 : R.Fn 82 c82
  n84 : N84 R
def c104 : IFn := { np := 3, rs := [.cell 6 true 3], body :=
 (.seq
  (.ops [⟨some 3, none, .box 12 (.t 0)⟩,
    ⟨some 6, none, .alloc 13 [.int .i64 0, .int .i64 0, .int .i64 0]⟩])
  (.seq
   (.ops [⟨some 7, none, .fldA 1 (.t 3)⟩,
     ⟨some 8, none, .load false 1 (.t 7)⟩,
     ⟨some 9, none, .mv (.t 2)⟩,
     ⟨some 10, none, .fldA 0 (.t 3)⟩,
     ⟨some 11, none, .load false 1 (.t 10)⟩,
     ⟨some 12, none, .bin .sub (.t 11) (.k (.int .i64 1))⟩,
     ⟨some 13, none, .bin .and (.t 9) (.t 12)⟩,
     ⟨some 14, none, .fldA 0 (.t 3)⟩,
     ⟨some 15, none, .load false 1 (.t 14)⟩,
     ⟨some 16, none, .bin .mul (.t 13) (.t 15)⟩,
     ⟨some 17, none, .mv (.t 1)⟩,
     ⟨some 18, none, .fldA 0 (.t 3)⟩,
     ⟨some 19, none, .load false 1 (.t 18)⟩,
     ⟨some 20, none, .bin .sub (.t 19) (.k (.int .i64 1))⟩,
     ⟨some 21, none, .bin .and (.t 17) (.t 20)⟩,
     ⟨some 22, none, .bin .add (.t 16) (.t 21)⟩,
     ⟨some 23, none, .idxS 3 (.t 8) (.t 22)⟩,
     ⟨some 24, none, .load true 3 (.t 23)⟩,
     ⟨none, none, .store 3 (.t 6) (.t 24)⟩])
   (.keep [6]
    .ret))) }
structure N104 (R : Env) : Prop where
  o104 : R.Fn 104 c104
def c103 : IFn := { np := 1, rs := [.cell 2 true 2], body :=
 (.seq
  (.ops [⟨some 1, none, .box 12 (.t 0)⟩,
    ⟨some 2, none, .alloc 12 [.int .i64 0, .nils]⟩])
  (.seq
   (.ops [⟨some 13, none, .fldA 0 (.t 1)⟩,
     ⟨some 14, none, .load false 1 (.t 13)⟩,
     ⟨some 15, none, .bin .quo (.t 14) (.k (.int .i64 2))⟩,
     ⟨some 16, none, .build [.int .i64 0, .nils] [(0, 1, .t 15)]⟩,
     ⟨some 3, none, .alloc 12 [.int .i64 0, .nils]⟩,
     ⟨none, none, .store 2 (.t 3) (.t 16)⟩])
   (.keep [1, 2, 3]
    (.seq
     (.seq
      (.ops [⟨some 17, none, .fldA 0 (.t 3)⟩,
        ⟨some 18, none, .load false 1 (.t 17)⟩,
        ⟨some 19, none, .fldA 0 (.t 3)⟩,
        ⟨some 20, none, .load false 1 (.t 19)⟩,
        ⟨some 21, none, .bin .mul (.t 18) (.t 20)⟩,
        ⟨some 22, none, .mv (.k (.int .i64 0))⟩])
      (.keep [1, 2, 3, 21, 22]
       (.block 0
        (.loop
         (.seq
          (.ops [⟨some 23, none, .bin .lss (.t 22) (.t 21)⟩])
          (.seq
           (.cond (.t 23)
            .skip
            (.exit 0))
           (.keep [1, 2, 3, 21, 22]
            (.seq
             (.block 1
              (.seq
               (.ops [⟨some 24, none, .mv (.t 22)⟩,
                 ⟨some 4, none, .mv (.t 24)⟩])
               (.seq
                (.draw [0, 0, 2, 7, 15, 0, 0, 64, 224, 480, 31, 2047] [[4], [3], [26], [25, 27], [28], [4], [3], [31], [30, 32], [33], [29], [34]] [⟨some 25, none, .mv (.t 4)⟩,
                  ⟨some 26, none, .fldA 0 (.t 3)⟩,
                  ⟨some 27, none, .load false 1 (.t 26)⟩,
                  ⟨some 28, none, .bin .rem (.t 25) (.t 27)⟩,
                  ⟨some 29, none, .bin .mul (.k (.int .i64 2)) (.t 28)⟩,
                  ⟨some 30, none, .mv (.t 4)⟩,
                  ⟨some 31, none, .fldA 0 (.t 3)⟩,
                  ⟨some 32, none, .load false 1 (.t 31)⟩,
                  ⟨some 33, none, .bin .quo (.t 30) (.t 32)⟩,
                  ⟨some 34, none, .bin .mul (.k (.int .i64 2)) (.t 33)⟩,
                  ⟨some 5, none, .mv (.t 29)⟩,
                  ⟨some 6, none, .mv (.t 34)⟩])
                (.keep [1, 2, 3, 5, 6, 21, 22]
                 (.seq
                  (.draw [0, 0, 0, 7, 0, 0, 32, 0, 255, 0, 0, 0, 2048, 8191, 0, 0, 32768, 0, 131072, 524287, 0, 0, 0, 0, 16777215, 33554431, 67108863, 134217727] [[1], [5], [6], [35, 36, 37], [1], [5], [40], [6], [39, 41, 42], [1], [5], [6], [46], [44, 45, 47], [1], [5], [50], [6], [52], [49, 51, 53], [], [], [], [], [7, 38], [8, 43], [9, 48], [10, 54]] [⟨some 35, none, .load true 2 (.t 1)⟩,
                    ⟨some 36, none, .mv (.t 5)⟩,
                    ⟨some 37, none, .mv (.t 6)⟩,
                    ⟨some 38, none, .call 104 [.t 35, .t 36, .t 37]⟩,
                    ⟨some 39, none, .load true 2 (.t 1)⟩,
                    ⟨some 40, none, .mv (.t 5)⟩,
                    ⟨some 41, none, .bin .add (.t 40) (.k (.int .i64 1))⟩,
                    ⟨some 42, none, .mv (.t 6)⟩,
                    ⟨some 43, none, .call 104 [.t 39, .t 41, .t 42]⟩,
                    ⟨some 44, none, .load true 2 (.t 1)⟩,
                    ⟨some 45, none, .mv (.t 5)⟩,
                    ⟨some 46, none, .mv (.t 6)⟩,
                    ⟨some 47, none, .bin .add (.t 46) (.k (.int .i64 1))⟩,
                    ⟨some 48, none, .call 104 [.t 44, .t 45, .t 47]⟩,
                    ⟨some 49, none, .load true 2 (.t 1)⟩,
                    ⟨some 50, none, .mv (.t 5)⟩,
                    ⟨some 51, none, .bin .add (.t 50) (.k (.int .i64 1))⟩,
                    ⟨some 52, none, .mv (.t 6)⟩,
                    ⟨some 53, none, .bin .add (.t 52) (.k (.int .i64 1))⟩,
                    ⟨some 54, none, .call 104 [.t 49, .t 51, .t 53]⟩,
                    ⟨some 7, none, .alloc 13 [.int .i64 0, .int .i64 0, .int .i64 0]⟩,
                    ⟨some 8, none, .alloc 13 [.int .i64 0, .int .i64 0, .int .i64 0]⟩,
                    ⟨some 9, none, .alloc 13 [.int .i64 0, .int .i64 0, .int .i64 0]⟩,
                    ⟨some 10, none, .alloc 13 [.int .i64 0, .int .i64 0, .int .i64 0]⟩,
                    ⟨none, none, .store 3 (.t 7) (.t 38)⟩,
                    ⟨none, none, .store 3 (.t 8) (.t 43)⟩,
                    ⟨none, none, .store 3 (.t 9) (.t 48)⟩,
                    ⟨none, none, .store 3 (.t 10) (.t 54)⟩])
                  (.keep [1, 2, 3, 7, 8, 9, 10, 21, 22]
                   (.seq
                    (.ops [⟨some 11, none, .alloc 13 [.int .i64 0, .int .i64 0, .int .i64 0]⟩])
                    (.seq
                     (.seq
                      (.ops [⟨some 55, none, .mv (.k (.int .i64 0))⟩])
                      (.keep [1, 2, 3, 7, 8, 9, 10, 11, 21, 22, 55]
                       (.block 2
                        (.loop
                         (.seq
                          (.ops [⟨some 56, none, .bin .lss (.t 55) (.k (.int .i64 3))⟩])
                          (.seq
                           (.cond (.t 56)
                            .skip
                            (.exit 2))
                           (.keep [1, 2, 3, 7, 8, 9, 10, 11, 21, 22, 55]
                            (.seq
                             (.block 3
                              (.seq
                               (.ops [⟨some 57, none, .mv (.t 55)⟩,
                                 ⟨some 12, none, .mv (.t 57)⟩])
                               (.draw [0, 0, 2, 6, 0, 16, 48, 126, 0, 256, 768, 2046, 0, 4096, 12288, 32766, 65534, 131070, 262143, 524287] [[12], [12], [7, 59], [60], [12], [8, 62], [63], [61, 64], [12], [9, 66], [67], [65, 68], [12], [10, 70], [71], [69, 72], [73], [74], [11, 58], [76, 75]] [⟨some 58, none, .mv (.t 12)⟩,
                                 ⟨some 59, none, .mv (.t 12)⟩,
                                 ⟨some 60, none, .idxA 3 1 (.t 7) (.t 59)⟩,
                                 ⟨some 61, none, .load false 1 (.t 60)⟩,
                                 ⟨some 62, none, .mv (.t 12)⟩,
                                 ⟨some 63, none, .idxA 3 1 (.t 8) (.t 62)⟩,
                                 ⟨some 64, none, .load false 1 (.t 63)⟩,
                                 ⟨some 65, none, .bin .add (.t 61) (.t 64)⟩,
                                 ⟨some 66, none, .mv (.t 12)⟩,
                                 ⟨some 67, none, .idxA 3 1 (.t 9) (.t 66)⟩,
                                 ⟨some 68, none, .load false 1 (.t 67)⟩,
                                 ⟨some 69, none, .bin .add (.t 65) (.t 68)⟩,
                                 ⟨some 70, none, .mv (.t 12)⟩,
                                 ⟨some 71, none, .idxA 3 1 (.t 10) (.t 70)⟩,
                                 ⟨some 72, none, .load false 1 (.t 71)⟩,
                                 ⟨some 73, none, .bin .add (.t 69) (.t 72)⟩,
                                 ⟨some 74, none, .bin .add (.t 73) (.k (.int .i64 2))⟩,
                                 ⟨some 75, none, .bin .quo (.t 74) (.k (.int .i64 4))⟩,
                                 ⟨some 76, none, .idxA 3 1 (.t 11) (.t 58)⟩,
                                 ⟨none, none, .store 1 (.t 76) (.t 75)⟩])))
                             (.keep [1, 2, 3, 7, 8, 9, 10, 11, 21, 22, 55]
                              (.ops [⟨some 77, none, .bin .add (.t 55) (.k (.int .i64 1))⟩,
                                ⟨some 55, none, .mv (.t 77)⟩]))))))))))
                     (.keep [1, 2, 3, 11, 21, 22]
                      (.ops [⟨some 78, none, .fldA 1 (.t 3)⟩,
                        ⟨some 79, none, .load false 1 (.t 78)⟩,
                        ⟨some 80, none, .load true 3 (.t 11)⟩,
                        ⟨some 81, none, .bslice 13 3 1 [.int .i64 0, .int .i64 0, .int .i64 0] [(0, .t 80)]⟩,
                        ⟨some 82, none, .app 13 3 (.t 79) (.t 81)⟩,
                        ⟨some 83, none, .fldA 1 (.t 3)⟩,
                        ⟨none, none, .store 1 (.t 83) (.t 82)⟩]))))))))))
             (.keep [1, 2, 3, 21, 22]
              (.ops [⟨some 84, none, .bin .add (.t 22) (.k (.int .i64 1))⟩,
                ⟨some 22, none, .mv (.t 84)⟩]))))))))))
     (.keep [2, 3]
      (.seq
       (.ops [⟨some 85, none, .load true 2 (.t 3)⟩,
         ⟨none, none, .store 2 (.t 2) (.t 85)⟩])
       .ret)))))) }
structure N103 (R : Env) : Prop where
  o103 : R.Fn 103 c103
  n104 : N104 R
def c91 : IFn := { np := 1, rs := [.cell 2 true 2, .t 3], body :=
 (.seq
  (.ops [⟨some 1, none, .box 12 (.t 0)⟩,
    ⟨some 2, none, .alloc 12 [.int .i64 0, .nils]⟩,
    ⟨some 3, none, .mv (.k (.int .i64 0))⟩])
  (.seq
   (.seq
    (.ops [⟨some 5, none, .load true 2 (.t 1)⟩,
      ⟨some 6, none, .call 84 [.t 5]⟩,
      ⟨some 4, none, .mv (.t 6)⟩])
    (.seq
     (.ops [⟨some 7, none, .mv (.t 4)⟩,
       ⟨some 8, none, .bin .neq (.t 7) (.k (.int .i64 0))⟩])
     (.cond (.t 8)
      (.seq
       (.ops [⟨some 9, none, .build [.int .i64 0, .nils] []⟩,
         ⟨some 10, none, .mv (.t 4)⟩,
         ⟨none, none, .store 2 (.t 2) (.t 9)⟩,
         ⟨some 3, none, .mv (.t 10)⟩])
       .ret)
      .skip)))
   (.keep [1, 2]
    (.seq
     (.seq
      (.ops [⟨some 11, none, .fldA 0 (.t 1)⟩,
        ⟨some 12, none, .load false 1 (.t 11)⟩,
        ⟨some 13, none, .bin .eql (.t 12) (.k (.int .i64 1))⟩])
      (.cond (.t 13)
       (.seq
        (.ops [⟨some 14, none, .build [.int .i64 0, .nils] []⟩,
          ⟨none, none, .store 2 (.t 2) (.t 14)⟩,
          ⟨some 3, none, .mv (.k (.int .i64 2))⟩])
        .ret)
       .skip))
     (.keep [1, 2]
      (.seq
       (.ops [⟨some 15, none, .load true 2 (.t 1)⟩,
         ⟨some 16, none, .call 103 [.t 15]⟩,
         ⟨none, none, .store 2 (.t 2) (.t 16)⟩,
         ⟨some 3, none, .mv (.k (.int .i64 0))⟩])
       .ret)))))) }
structure N91 (R : Env) : Prop where
  o91 : R.Fn 91 c91
  n84 : N84 R
  n103 : N103 R
def c107 : IFn := { np := 2, rs := [], body :=
 (.block 0
  (.loop
   (.seq
    (.seq
     (.ops [⟨some 3, none, .mv (.t 0)⟩,
       ⟨some 4, none, .load true 2 (.t 1)⟩,
       ⟨some 5, none, .callv (.t 3) [.t 4]⟩,
       ⟨some 6, none, .mv (.t 5)⟩,
       ⟨some 7, some (6, true), .fldA 0 (.t 1)⟩,
       ⟨some 8, some (6, true), .load false 1 (.t 7)⟩,
       ⟨some 9, some (6, true), .bin .gtr (.t 8) (.k (.int .i64 1))⟩,
       ⟨some 10, none, .pick (.t 6) (.t 9) (.k (.bool false))⟩])
     (.keep [0, 1, 10]
      (.cond (.t 10)
       .skip
       (.exit 0))))
    (.keep [0, 1]
     (.block 1
      (.ops [⟨some 11, none, .load true 2 (.t 1)⟩,
        ⟨some 12, none, .call 103 [.t 11]⟩,
        ⟨none, none, .store 2 (.t 1) (.t 12)⟩])))))) }
structure N107 (R : Env) : Prop where
  o107 : R.Fn 107 c107
  n103 : N103 R
def c102 : IFn := { np := 1, rs := [.t 2], body :=
 (.seq
  (.ops [⟨some 1, none, .box 12 (.t 0)⟩,
    ⟨some 2, none, .mv (.k (.nilf))⟩])
  (.seq
   (.ops [⟨some 3, none, .mkf 107 [.t 1]⟩,
     ⟨some 2, none, .mv (.t 3)⟩])
   .ret)) }
structure N102 (R : Env) : Prop where
  o102 : R.Fn 102 c102
  n107 : N107 R
def c88 : IFn := { np := 1, rs := [.t 2, .t 3], body :=
 (.seq
  (.ops [⟨some 1, none, .box 12 (.t 0)⟩,
    ⟨some 2, none, .mv (.k (.nils))⟩,
    ⟨some 3, none, .mv (.k (.int .i64 0))⟩])
  (.seq
   (.seq
    (.ops [⟨some 7, none, .load true 2 (.t 1)⟩,
      ⟨some 8, none, .call 84 [.t 7]⟩,
      ⟨some 4, none, .mv (.t 8)⟩])
    (.seq
     (.ops [⟨some 9, none, .mv (.t 4)⟩,
       ⟨some 10, none, .bin .neq (.t 9) (.k (.int .i64 0))⟩])
     (.cond (.t 10)
      (.seq
       (.ops [⟨some 11, none, .mv (.t 4)⟩,
         ⟨some 2, none, .mv (.k (.nils))⟩,
         ⟨some 3, none, .mv (.t 11)⟩])
       .ret)
      .skip)))
   (.keep [1]
    (.seq
     (.ops [⟨some 5, none, .alloc 14 [.nils]⟩])
     (.seq
      (.seq
       (.draw [0, 1, 0, 4, 12, 31, 63] [[1], [12], [1], [14], [15], [13, 16], [17]] [⟨some 12, none, .fldA 0 (.t 1)⟩,
         ⟨some 13, none, .load false 1 (.t 12)⟩,
         ⟨some 14, none, .fldA 1 (.t 1)⟩,
         ⟨some 15, none, .load false 1 (.t 14)⟩,
         ⟨some 16, none, .call 101 [.t 15]⟩,
         ⟨some 17, none, .build [.int .i64 0, .nils] [(0, 1, .t 13), (1, 1, .t 16)]⟩,
         ⟨some 18, none, .call 102 [.t 17]⟩])
       (.keep [5]
        (.block 0
         .skip)))
      (.keep [5]
       (.seq
        (.ops [⟨some 24, none, .load false 1 (.t 5)⟩,
          ⟨some 2, none, .mv (.t 24)⟩,
          ⟨some 3, none, .mv (.k (.int .i64 0))⟩])
        .ret))))))) }
structure N88 (R : Env) : Prop where
  o88 : R.Fn 88 c88
  n84 : N84 R
  n101 : N101 R
  n102 : N102 R
def c94 : IFn := { np := 3, rs := [.cell 6 true 3, .t 7], body :=
 (.seq
  (.ops [⟨some 3, none, .box 12 (.t 0)⟩,
    ⟨some 6, none, .alloc 13 [.int .i64 0, .int .i64 0, .int .i64 0]⟩,
    ⟨some 7, none, .mv (.k (.int .i64 0))⟩])
  (.seq
   (.seq
    (.ops [⟨some 9, none, .load true 2 (.t 3)⟩,
      ⟨some 10, none, .call 84 [.t 9]⟩,
      ⟨some 8, none, .mv (.t 10)⟩])
    (.seq
     (.ops [⟨some 11, none, .mv (.t 8)⟩,
       ⟨some 12, none, .bin .neq (.t 11) (.k (.int .i64 0))⟩])
     (.cond (.t 12)
      (.seq
       (.ops [⟨some 13, none, .build [.int .i64 0, .int .i64 0, .int .i64 0] []⟩,
         ⟨some 14, none, .mv (.t 8)⟩,
         ⟨none, none, .store 3 (.t 6) (.t 13)⟩,
         ⟨some 7, none, .mv (.t 14)⟩])
       .ret)
      .skip)))
   (.keep [1, 2, 3, 6]
    (.seq
     (.ops [⟨some 15, none, .load true 2 (.t 3)⟩,
       ⟨some 16, none, .mv (.t 1)⟩,
       ⟨some 17, none, .mv (.t 2)⟩,
       ⟨some 18, none, .call 104 [.t 15, .t 16, .t 17]⟩,
       ⟨none, none, .store 3 (.t 6) (.t 18)⟩,
       ⟨some 7, none, .mv (.k (.int .i64 0))⟩])
     (.keep [6, 7]
      .ret))))) }
structure N94 (R : Env) : Prop where
  o94 : R.Fn 94 c94
  n84 : N84 R
  n104 : N104 R
def c97 : IFn := { np := 1, rs := [.cell 2 true 2, .t 3], body :=
 (.seq
  (.ops [⟨some 2, none, .alloc 12 [.int .i64 0, .nils]⟩,
    ⟨some 3, none, .mv (.k (.int .i64 0))⟩])
  (.seq
   (.ops [⟨some 9, none, .mv (.t 0)⟩,
     ⟨some 10, none, .call 56 [.t 9]⟩,
     ⟨some 4, none, .mv (.t 10)⟩])
   (.seq
    (.ops [⟨some 11, none, .mv (.t 4)⟩,
      ⟨some 12, none, .call 57 [.t 11, .k (.int .i64 1)]⟩,
      ⟨some 13, none, .conv .i64 (.t 12)⟩,
      ⟨some 14, none, .build [.int .i64 0, .nils] [(0, 1, .t 13)]⟩,
      ⟨some 5, none, .alloc 12 [.int .i64 0, .nils]⟩,
      ⟨none, none, .store 2 (.t 5) (.t 14)⟩])
    (.keep [2, 4, 5]
     (.seq
      (.seq
       (.ops [⟨some 15, none, .fldA 0 (.t 5)⟩,
         ⟨some 16, none, .load false 1 (.t 15)⟩,
         ⟨some 17, none, .fldA 0 (.t 5)⟩,
         ⟨some 18, none, .load false 1 (.t 17)⟩,
         ⟨some 19, none, .bin .mul (.t 16) (.t 18)⟩,
         ⟨some 20, none, .mv (.k (.int .i64 0))⟩])
       (.keep [2, 4, 5, 19, 20]
        (.block 0
         (.loop
          (.seq
           (.ops [⟨some 21, none, .bin .lss (.t 20) (.t 19)⟩])
           (.seq
            (.cond (.t 21)
             .skip
             (.exit 0))
            (.keep [2, 4, 5, 19, 20]
             (.seq
              (.block 1
               (.seq
                (.ops [⟨some 22, none, .mv (.t 4)⟩,
                  ⟨some 23, none, .call 59 [.t 22, .k (.int .i64 3)]⟩,
                  ⟨some 6, none, .mv (.t 23)⟩])
                (.seq
                 (.seq
                  (.ops [⟨some 24, none, .mv (.t 6)⟩,
                    ⟨some 25, none, .lenS (.t 24)⟩,
                    ⟨some 26, none, .bin .lss (.t 25) (.k (.int .i64 3))⟩])
                  (.cond (.t 26)
                   (.exit 0)
                   .skip))
                 (.keep [2, 4, 5, 6, 19, 20]
                  (.draw [0, 1, 0, 4, 12, 28, 0, 64, 192, 448, 0, 1024, 3072, 7168, 16380, 32764, 65535, 131071, 262143] [[5], [27], [6], [29], [30], [31], [6], [33], [34], [35], [6], [37], [38], [39], [32, 36, 40], [41], [28, 42], [5], [44, 43]] [⟨some 27, none, .fldA 1 (.t 5)⟩,
                    ⟨some 28, none, .load false 1 (.t 27)⟩,
                    ⟨some 29, none, .mv (.t 6)⟩,
                    ⟨some 30, none, .idxS 1 (.t 29) (.k (.int .i64 0))⟩,
                    ⟨some 31, none, .load false 1 (.t 30)⟩,
                    ⟨some 32, none, .conv .i64 (.t 31)⟩,
                    ⟨some 33, none, .mv (.t 6)⟩,
                    ⟨some 34, none, .idxS 1 (.t 33) (.k (.int .i64 1))⟩,
                    ⟨some 35, none, .load false 1 (.t 34)⟩,
                    ⟨some 36, none, .conv .i64 (.t 35)⟩,
                    ⟨some 37, none, .mv (.t 6)⟩,
                    ⟨some 38, none, .idxS 1 (.t 37) (.k (.int .i64 2))⟩,
                    ⟨some 39, none, .load false 1 (.t 38)⟩,
                    ⟨some 40, none, .conv .i64 (.t 39)⟩,
                    ⟨some 41, none, .build [.int .i64 0, .int .i64 0, .int .i64 0] [(0, 1, .t 32), (1, 1, .t 36), (2, 1, .t 40)]⟩,
                    ⟨some 42, none, .bslice 13 3 1 [.int .i64 0, .int .i64 0, .int .i64 0] [(0, .t 41)]⟩,
                    ⟨some 43, none, .app 13 3 (.t 28) (.t 42)⟩,
                    ⟨some 44, none, .fldA 1 (.t 5)⟩,
                    ⟨none, none, .store 1 (.t 44) (.t 43)⟩])))))
              (.keep [2, 4, 5, 19, 20]
               (.ops [⟨some 45, none, .bin .add (.t 20) (.k (.int .i64 1))⟩,
                 ⟨some 20, none, .mv (.t 45)⟩]))))))))))
      (.keep [2, 4, 5]
       (.seq
        (.seq
         (.ops [⟨some 46, none, .mv (.t 4)⟩,
           ⟨some 47, none, .call 60 [.t 46]⟩,
           ⟨some 7, none, .mv (.t 47)⟩])
         (.seq
          (.ops [⟨some 48, none, .mv (.t 7)⟩,
            ⟨some 49, none, .bin .neq (.t 48) (.k (.int .i64 0))⟩])
          (.cond (.t 49)
           (.seq
            (.ops [⟨some 50, none, .build [.int .i64 0, .nils] []⟩,
              ⟨some 51, none, .mv (.t 7)⟩,
              ⟨none, none, .store 2 (.t 2) (.t 50)⟩,
              ⟨some 3, none, .mv (.t 51)⟩])
            .ret)
           .skip)))
        (.keep [2, 5]
         (.seq
          (.seq
           (.ops [⟨some 52, none, .load true 2 (.t 5)⟩,
             ⟨some 53, none, .call 84 [.t 52]⟩,
             ⟨some 8, none, .mv (.t 53)⟩])
           (.seq
            (.ops [⟨some 54, none, .mv (.t 8)⟩,
              ⟨some 55, none, .bin .neq (.t 54) (.k (.int .i64 0))⟩])
            (.cond (.t 55)
             (.seq
              (.ops [⟨some 56, none, .build [.int .i64 0, .nils] []⟩,
                ⟨some 57, none, .mv (.t 8)⟩,
                ⟨none, none, .store 2 (.t 2) (.t 56)⟩,
                ⟨some 3, none, .mv (.t 57)⟩])
              .ret)
             .skip)))
          (.keep [2, 5]
           (.seq
            (.ops [⟨some 58, none, .load true 2 (.t 5)⟩,
              ⟨none, none, .store 2 (.t 2) (.t 58)⟩,
              ⟨some 3, none, .mv (.k (.int .i64 0))⟩])
            .ret))))))))))) }
structure N97 (R : Env) : Prop where
  o97 : R.Fn 97 c97
  n56 : N56 R
  n57 : N57 R
  n59 : N59 R
  n60 : N60 R
  n84 : N84 R
end Go.UM

namespace Go.UM
open Go.AM
def c322 : IFn := { np := 2, rs := [.t 3], body :=
 (.seq
  (.ops [⟨some 3, none, .mv (.k (.bool false))⟩])
  (.seq
   (.ops [⟨some 4, none, .mv (.t 0)⟩,
     ⟨some 5, none, .bin .lss (.t 4) (.k (.int .i64 0))⟩,
     ⟨some 6, none, .mv (.t 5)⟩,
     ⟨some 7, some (6, false), .mv (.t 0)⟩,
     ⟨some 8, some (6, false), .load false 1 (.t 1)⟩,
     ⟨some 9, some (6, false), .bin .gtr (.t 7) (.t 8)⟩,
     ⟨some 10, none, .pick (.t 6) (.k (.bool true)) (.t 9)⟩,
     ⟨some 3, none, .mv (.t 10)⟩])
   (.keep [3]
    .ret))) }
structure N322 (R : Env) : Prop where
  o322 : R.Fn 322 c322
def c307 : IFn := { np := 2, rs := [.t 4], body :=
 (.seq
  (.ops [⟨some 2, none, .box 10 (.t 0)⟩,
    ⟨some 4, none, .mv (.k (.bool false))⟩])
  (.seq
   (.ops [⟨some 5, none, .mv (.t 1)⟩,
     ⟨some 6, none, .mkf 322 [.t 2]⟩,
     ⟨some 7, none, .call 323 [.t 5, .t 6]⟩,
     ⟨some 4, none, .mv (.t 7)⟩])
   .ret)) }
structure N307 (R : Env) : Prop where
  o307 : R.Fn 307 c307
  n322 : N322 R
  n323 : N323 R
def c290 : IFn := { np := 1, rs := [.t 2], body :=
 (.seq
  (.ops [⟨some 1, none, .box 40 (.t 0)⟩,
    ⟨some 2, none, .mv (.k (.int .i64 0))⟩])
  (.seq
   (.seq
    (.ops [⟨some 3, none, .fldA 0 (.t 1)⟩,
      ⟨some 4, none, .load false 1 (.t 3)⟩,
      ⟨some 5, none, .bslice 10 1 1 [.int .i64 0] [(0, .t 4)]⟩,
      ⟨some 6, none, .call 307 [.k (.int .i64 4), .t 5]⟩,
      ⟨some 7, none, .mv (.t 6)⟩,
      ⟨some 8, some (7, false), .fldA 1 (.t 1)⟩,
      ⟨some 9, some (7, false), .idxA 3 1 (.t 8) (.k (.int .i64 0))⟩,
      ⟨some 10, some (7, false), .load false 1 (.t 9)⟩,
      ⟨some 11, some (7, false), .fldA 1 (.t 1)⟩,
      ⟨some 12, some (7, false), .idxA 3 1 (.t 11) (.k (.int .i64 1))⟩,
      ⟨some 13, some (7, false), .load false 1 (.t 12)⟩,
      ⟨some 14, some (7, false), .fldA 1 (.t 1)⟩,
      ⟨some 15, some (7, false), .idxA 3 1 (.t 14) (.k (.int .i64 2))⟩,
      ⟨some 16, some (7, false), .load false 1 (.t 15)⟩,
      ⟨some 17, some (7, false), .fldA 4 (.t 1)⟩,
      ⟨some 18, some (7, false), .load false 1 (.t 17)⟩,
      ⟨some 19, some (7, false), .bslice 10 1 4 [.int .i64 0] [(0, .t 10), (1, .t 13), (2, .t 16), (3, .t 18)]⟩,
      ⟨some 20, some (7, false), .call 307 [.k (.int .i64 65535), .t 19]⟩,
      ⟨some 21, none, .pick (.t 7) (.k (.bool true)) (.t 20)⟩])
    (.keep [21]
     (.cond (.t 21)
      (.seq
       (.ops [⟨some 2, none, .mv (.k (.int .i64 5))⟩])
       .ret)
      .skip)))
   (.keep []
    (.seq
     (.ops [⟨some 2, none, .mv (.k (.int .i64 0))⟩])
     .ret)))) }
structure N290 (R : Env) : Prop where
  o290 : R.Fn 290 c290
  n307 : N307 R
def c308 : IFn := { np := 1, rs := [.t 2], body :=
 (.seq
  (.ops [⟨some 1, none, .box 26 (.t 0)⟩,
    ⟨some 2, none, .mv (.k (.bool false))⟩])
  (.seq
   (.ops [⟨some 3, none, .fldA 0 (.t 1)⟩,
     ⟨some 4, none, .load false 1 (.t 3)⟩,
     ⟨some 5, none, .fldA 1 (.t 1)⟩,
     ⟨some 6, none, .load false 1 (.t 5)⟩,
     ⟨some 7, none, .fldA 2 (.t 1)⟩,
     ⟨some 8, none, .load false 1 (.t 7)⟩,
     ⟨some 9, none, .mm true [.t 4, .t 6, .t 8]⟩,
     ⟨some 10, none, .bin .gtr (.t 9) (.k (.int .i64 4096))⟩,
     ⟨some 11, none, .mv (.t 10)⟩,
     ⟨some 12, some (11, false), .fldA 0 (.t 1)⟩,
     ⟨some 13, some (11, false), .load false 1 (.t 12)⟩,
     ⟨some 14, some (11, false), .fldA 1 (.t 1)⟩,
     ⟨some 15, some (11, false), .load false 1 (.t 14)⟩,
     ⟨some 16, some (11, false), .fldA 2 (.t 1)⟩,
     ⟨some 17, some (11, false), .load false 1 (.t 16)⟩,
     ⟨some 18, some (11, false), .mm false [.t 13, .t 15, .t 17]⟩,
     ⟨some 19, some (11, false), .bin .lss (.t 18) (.k (.int .i64 (-4096)))⟩,
     ⟨some 20, none, .pick (.t 11) (.k (.bool true)) (.t 19)⟩,
     ⟨some 2, none, .mv (.t 20)⟩])
   (.keep [2]
    .ret))) }
structure N308 (R : Env) : Prop where
  o308 : R.Fn 308 c308
def c292 : IFn := { np := 1, rs := [.t 2], body :=
 (.seq
  (.ops [⟨some 1, none, .box 41 (.t 0)⟩,
    ⟨some 2, none, .mv (.k (.int .i64 0))⟩])
  (.seq
   (.ops [⟨some 3, none, .mv (.f 308)⟩])
   (.seq
    (.ops [⟨some 5, none, .build [.int .i64 0, .int .i64 0, .int .i64 0] []⟩,
      ⟨some 4, none, .alloc 26 [.int .i64 0, .int .i64 0, .int .i64 0]⟩,
      ⟨none, none, .store 3 (.t 4) (.t 5)⟩])
    (.seq
     (.block 0
      (.seq
       (.ops [⟨some 7, none, .fldA 0 (.t 1)⟩,
         ⟨some 8, none, .load false 1 (.t 7)⟩,
         ⟨some 9, none, .bslice 10 1 1 [.int .i64 0] [(0, .t 8)]⟩,
         ⟨some 10, none, .call 307 [.k (.int .i64 2), .t 9]⟩,
         ⟨some 11, none, .mv (.t 10)⟩,
         ⟨some 12, some (11, false), .fldA 1 (.t 1)⟩,
         ⟨some 13, some (11, false), .slcA 3 1 (.t 12) none none none⟩,
         ⟨some 14, some (11, false), .call 307 [.k (.int .i64 1048576), .t 13]⟩,
         ⟨some 15, none, .pick (.t 11) (.k (.bool true)) (.t 14)⟩,
         ⟨some 6, none, .mv (.t 15)⟩])
       (.keep [1, 3, 4, 6]
        (.cond (.t 6)
         (.seq
          (.ops [⟨some 2, none, .mv (.k (.int .i64 5))⟩])
          .ret)
         (.seq
          (.ops [⟨some 17, none, .mv (.t 3)⟩,
            ⟨some 18, none, .fldA 4 (.t 1)⟩,
            ⟨some 19, none, .load true 3 (.t 18)⟩,
            ⟨some 20, none, .callv (.t 17) [.t 19]⟩,
            ⟨some 21, none, .mv (.t 20)⟩,
            ⟨some 22, some (21, false), .mv (.t 3)⟩,
            ⟨some 23, some (21, false), .fldA 7 (.t 1)⟩,
            ⟨some 24, some (21, false), .load true 3 (.t 23)⟩,
            ⟨some 25, some (21, false), .callv (.t 22) [.t 24]⟩,
            ⟨some 26, none, .pick (.t 21) (.k (.bool true)) (.t 25)⟩,
            ⟨some 27, none, .mv (.t 26)⟩,
            ⟨some 28, some (27, false), .mv (.t 3)⟩,
            ⟨some 29, some (27, false), .fldA 10 (.t 1)⟩,
            ⟨some 30, some (27, false), .load true 3 (.t 29)⟩,
            ⟨some 31, some (27, false), .callv (.t 28) [.t 30]⟩,
            ⟨some 32, none, .pick (.t 27) (.k (.bool true)) (.t 31)⟩,
            ⟨some 16, none, .mv (.t 32)⟩])
          (.keep [1, 4, 16]
           (.cond (.t 16)
            (.seq
             (.ops [⟨some 2, none, .mv (.k (.int .i64 8))⟩])
             .ret)
            .skip)))))))
     (.keep [1, 4]
      (.seq
       (.seq
        (.ops [⟨some 33, none, .fldA 0 (.t 1)⟩,
          ⟨some 34, none, .load false 1 (.t 33)⟩])
        (.block 1
         (.seq
          (.block 3
           (.seq
            (.block 2
             (.seq
              (.seq
               (.seq
                (.ops [⟨some 36, none, .bin .eql (.t 34) (.k (.int .i64 2))⟩,
                  ⟨some 35, none, .mv (.t 36)⟩])
                (.cond (.t 35)
                 (.exit 2)
                 .skip))
               (.keep [1, 4, 34]
                (.seq
                 (.ops [⟨some 38, none, .bin .eql (.t 34) (.k (.int .i64 0))⟩,
                   ⟨some 37, none, .mv (.t 38)⟩])
                 (.cond (.t 37)
                  (.exit 3)
                  .skip))))
              (.keep []
               (.exit 1))))
            (.keep [1, 4]
             (.seq
              (.ops [⟨some 39, none, .fldA 4 (.t 1)⟩,
                ⟨some 40, none, .load true 3 (.t 39)⟩,
                ⟨some 41, none, .load true 3 (.t 4)⟩,
                ⟨some 42, none, .eqa true [.i, .i, .i] (.t 40) (.t 41)⟩])
              (.cond (.t 42)
               (.seq
                (.ops [⟨some 2, none, .mv (.k (.int .i64 5))⟩])
                .ret)
               .skip)))))
          (.keep [1, 4]
           (.seq
            (.seq
             (.ops [⟨some 43, none, .fldA 7 (.t 1)⟩,
               ⟨some 44, none, .load true 3 (.t 43)⟩,
               ⟨some 45, none, .load true 3 (.t 4)⟩,
               ⟨some 46, none, .eqa true [.i, .i, .i] (.t 44) (.t 45)⟩,
               ⟨some 47, none, .mv (.t 46)⟩,
               ⟨some 48, some (47, false), .fldA 10 (.t 1)⟩,
               ⟨some 49, some (47, false), .load true 3 (.t 48)⟩,
               ⟨some 50, some (47, false), .load true 3 (.t 4)⟩,
               ⟨some 51, some (47, false), .eqa true [.i, .i, .i] (.t 49) (.t 50)⟩,
               ⟨some 52, none, .pick (.t 47) (.k (.bool true)) (.t 51)⟩])
             (.keep [52]
              (.cond (.t 52)
               (.seq
                (.ops [⟨some 2, none, .mv (.k (.int .i64 5))⟩])
                .ret)
               .skip)))
            (.keep []
             (.exit 1)))))))
       (.keep []
        (.seq
         (.ops [⟨some 2, none, .mv (.k (.int .i64 0))⟩])
         .ret)))))))) }
structure N292 (R : Env) : Prop where
  o292 : R.Fn 292 c292
  n307 : N307 R
  n308 : N308 R
def c315 : IFn := { np := 2, rs := [.t 4], body :=
 (.seq
  (.ops [⟨some 4, none, .mv (.k (.bool false))⟩])
  (.seq
   (.seq
    (.ops [⟨some 6, none, .mv (.t 0)⟩,
      ⟨some 7, none, .lenS (.t 6)⟩,
      ⟨some 8, none, .mv (.t 1)⟩,
      ⟨some 9, none, .lenS (.t 8)⟩,
      ⟨some 10, none, .bin .neq (.t 7) (.t 9)⟩])
    (.keep [0, 1, 10]
     (.cond (.t 10)
      (.seq
       (.ops [⟨some 4, none, .mv (.k (.bool false))⟩])
       .ret)
      .skip)))
   (.keep [0, 1]
    (.seq
     (.seq
      (.ops [⟨some 11, none, .mv (.t 0)⟩,
        ⟨some 12, none, .lenS (.t 11)⟩,
        ⟨some 13, none, .mv (.k (.int .i64 0))⟩])
      (.keep [0, 1, 12, 13]
       (.block 0
        (.loop
         (.seq
          (.ops [⟨some 14, none, .bin .lss (.t 13) (.t 12)⟩])
          (.seq
           (.cond (.t 14)
            .skip
            (.exit 0))
           (.keep [0, 1, 12, 13]
            (.seq
             (.block 1
              (.seq
               (.ops [⟨some 15, none, .mv (.t 13)⟩,
                 ⟨some 5, none, .mv (.t 15)⟩])
               (.seq
                (.draw [0, 0, 3, 7, 0, 0, 48, 112, 255] [[0], [5], [16, 17], [18], [1], [5], [20, 21], [22], [19, 23]] [⟨some 16, none, .mv (.t 0)⟩,
                  ⟨some 17, none, .mv (.t 5)⟩,
                  ⟨some 18, none, .idxS 3 (.t 16) (.t 17)⟩,
                  ⟨some 19, none, .load true 3 (.t 18)⟩,
                  ⟨some 20, none, .mv (.t 1)⟩,
                  ⟨some 21, none, .mv (.t 5)⟩,
                  ⟨some 22, none, .idxS 3 (.t 20) (.t 21)⟩,
                  ⟨some 23, none, .load true 3 (.t 22)⟩,
                  ⟨some 24, none, .eqa true [.i, .i, .i] (.t 19) (.t 23)⟩])
                (.keep [0, 1, 12, 13, 24]
                 (.cond (.t 24)
                  (.seq
                   (.ops [⟨some 4, none, .mv (.k (.bool false))⟩])
                   .ret)
                  .skip)))))
             (.keep [0, 1, 12, 13]
              (.ops [⟨some 25, none, .bin .add (.t 13) (.k (.int .i64 1))⟩,
                ⟨some 13, none, .mv (.t 25)⟩]))))))))))
     (.keep []
      (.seq
       (.ops [⟨some 4, none, .mv (.k (.bool true))⟩])
       .ret)))))) }
structure N315 (R : Env) : Prop where
  o315 : R.Fn 315 c315
def c316 : IFn := { np := 2, rs := [.t 4], body :=
 (.seq
  (.ops [⟨some 4, none, .mv (.k (.bool false))⟩])
  (.seq
   (.seq
    (.ops [⟨some 6, none, .mv (.t 0)⟩,
      ⟨some 7, none, .lenS (.t 6)⟩,
      ⟨some 8, none, .mv (.t 1)⟩,
      ⟨some 9, none, .lenS (.t 8)⟩,
      ⟨some 10, none, .bin .neq (.t 7) (.t 9)⟩])
    (.keep [0, 1, 10]
     (.cond (.t 10)
      (.seq
       (.ops [⟨some 4, none, .mv (.k (.bool false))⟩])
       .ret)
      .skip)))
   (.keep [0, 1]
    (.seq
     (.seq
      (.ops [⟨some 11, none, .mv (.t 0)⟩,
        ⟨some 12, none, .lenS (.t 11)⟩,
        ⟨some 13, none, .mv (.k (.int .i64 0))⟩])
      (.keep [0, 1, 12, 13]
       (.block 0
        (.loop
         (.seq
          (.ops [⟨some 14, none, .bin .lss (.t 13) (.t 12)⟩])
          (.seq
           (.cond (.t 14)
            .skip
            (.exit 0))
           (.keep [0, 1, 12, 13]
            (.seq
             (.block 1
              (.seq
               (.ops [⟨some 15, none, .mv (.t 13)⟩,
                 ⟨some 5, none, .mv (.t 15)⟩])
               (.seq
                (.draw [0, 0, 3, 7, 0, 0, 48, 112, 255] [[0], [5], [16, 17], [18], [1], [5], [20, 21], [22], [19, 23]] [⟨some 16, none, .mv (.t 0)⟩,
                  ⟨some 17, none, .mv (.t 5)⟩,
                  ⟨some 18, none, .idxS 2 (.t 16) (.t 17)⟩,
                  ⟨some 19, none, .load true 2 (.t 18)⟩,
                  ⟨some 20, none, .mv (.t 1)⟩,
                  ⟨some 21, none, .mv (.t 5)⟩,
                  ⟨some 22, none, .idxS 2 (.t 20) (.t 21)⟩,
                  ⟨some 23, none, .load true 2 (.t 22)⟩,
                  ⟨some 24, none, .eqa true [.i, .i] (.t 19) (.t 23)⟩])
                (.keep [0, 1, 12, 13, 24]
                 (.cond (.t 24)
                  (.seq
                   (.ops [⟨some 4, none, .mv (.k (.bool false))⟩])
                   .ret)
                  .skip)))))
             (.keep [0, 1, 12, 13]
              (.ops [⟨some 25, none, .bin .add (.t 13) (.k (.int .i64 1))⟩,
                ⟨some 13, none, .mv (.t 25)⟩]))))))))))
     (.keep []
      (.seq
       (.ops [⟨some 4, none, .mv (.k (.bool true))⟩])
       .ret)))))) }
structure N316 (R : Env) : Prop where
  o316 : R.Fn 316 c316
def c317 : IFn := { np := 2, rs := [.t 4], body :=
 (.seq
  (.ops [⟨some 4, none, .mv (.k (.bool false))⟩])
  (.seq
   (.seq
    (.ops [⟨some 6, none, .mv (.t 0)⟩,
      ⟨some 7, none, .lenS (.t 6)⟩,
      ⟨some 8, none, .mv (.t 1)⟩,
      ⟨some 9, none, .lenS (.t 8)⟩,
      ⟨some 10, none, .bin .neq (.t 7) (.t 9)⟩])
    (.keep [0, 1, 10]
     (.cond (.t 10)
      (.seq
       (.ops [⟨some 4, none, .mv (.k (.bool false))⟩])
       .ret)
      .skip)))
   (.keep [0, 1]
    (.seq
     (.seq
      (.ops [⟨some 11, none, .mv (.t 0)⟩,
        ⟨some 12, none, .lenS (.t 11)⟩,
        ⟨some 13, none, .mv (.k (.int .i64 0))⟩])
      (.keep [0, 1, 12, 13]
       (.block 0
        (.loop
         (.seq
          (.ops [⟨some 14, none, .bin .lss (.t 13) (.t 12)⟩])
          (.seq
           (.cond (.t 14)
            .skip
            (.exit 0))
           (.keep [0, 1, 12, 13]
            (.seq
             (.block 1
              (.seq
               (.ops [⟨some 15, none, .mv (.t 13)⟩,
                 ⟨some 5, none, .mv (.t 15)⟩])
               (.seq
                (.draw [0, 0, 3, 7, 0, 0, 48, 112, 255] [[0], [5], [16, 17], [18], [1], [5], [20, 21], [22], [19, 23]] [⟨some 16, none, .mv (.t 0)⟩,
                  ⟨some 17, none, .mv (.t 5)⟩,
                  ⟨some 18, none, .idxS 3 (.t 16) (.t 17)⟩,
                  ⟨some 19, none, .load true 3 (.t 18)⟩,
                  ⟨some 20, none, .mv (.t 1)⟩,
                  ⟨some 21, none, .mv (.t 5)⟩,
                  ⟨some 22, none, .idxS 3 (.t 20) (.t 21)⟩,
                  ⟨some 23, none, .load true 3 (.t 22)⟩,
                  ⟨some 24, none, .eqa true [.i, .i, .i] (.t 19) (.t 23)⟩])
                (.keep [0, 1, 12, 13, 24]
                 (.cond (.t 24)
                  (.seq
                   (.ops [⟨some 4, none, .mv (.k (.bool false))⟩])
                   .ret)
                  .skip)))))
             (.keep [0, 1, 12, 13]
              (.ops [⟨some 25, none, .bin .add (.t 13) (.k (.int .i64 1))⟩,
                ⟨some 13, none, .mv (.t 25)⟩]))))))))))
     (.keep []
      (.seq
       (.ops [⟨some 4, none, .mv (.k (.bool true))⟩])
       .ret)))))) }
structure N317 (R : Env) : Prop where
  o317 : R.Fn 317 c317
def c298 : IFn := { np := 2, rs := [.t 4], body :=
 (.seq
  (.ops [⟨some 2, none, .box 39 (.t 0)⟩,
    ⟨some 3, none, .box 39 (.t 1)⟩,
    ⟨some 4, none, .mv (.k (.bool false))⟩])
  (.seq
   (.seq
    (.ops [⟨some 5, none, .fldA 0 (.t 2)⟩,
      ⟨some 6, none, .load false 1 (.t 5)⟩,
      ⟨some 7, none, .fldA 0 (.t 3)⟩,
      ⟨some 8, none, .load false 1 (.t 7)⟩,
      ⟨some 9, none, .bin .neq (.t 6) (.t 8)⟩,
      ⟨some 10, none, .mv (.t 9)⟩,
      ⟨some 11, some (10, false), .fldA 6 (.t 2)⟩,
      ⟨some 12, some (10, false), .load true 5 (.t 11)⟩,
      ⟨some 13, some (10, false), .fldA 6 (.t 3)⟩,
      ⟨some 14, some (10, false), .load true 5 (.t 13)⟩,
      ⟨some 15, some (10, false), .eqa true [.i, .i, .i, .i, .i] (.t 12) (.t 14)⟩,
      ⟨some 16, none, .pick (.t 10) (.k (.bool true)) (.t 15)⟩,
      ⟨some 17, none, .mv (.t 16)⟩,
      ⟨some 18, some (17, false), .fldA 11 (.t 2)⟩,
      ⟨some 19, some (17, false), .load true 13 (.t 18)⟩,
      ⟨some 20, some (17, false), .fldA 11 (.t 3)⟩,
      ⟨some 21, some (17, false), .load true 13 (.t 20)⟩,
      ⟨some 22, some (17, false), .eqa true [.i, .i, .i, .i, .i, .i, .i, .i, .i, .i, .i, .i, .i] (.t 19) (.t 21)⟩,
      ⟨some 23, none, .pick (.t 17) (.k (.bool true)) (.t 22)⟩,
      ⟨some 24, none, .mv (.t 23)⟩,
      ⟨some 25, some (24, false), .fldA 4 (.t 2)⟩,
      ⟨some 26, some (24, false), .fldA 0 (.t 25)⟩,
      ⟨some 27, some (24, false), .load false 1 (.t 26)⟩,
      ⟨some 28, some (24, false), .fldA 4 (.t 3)⟩,
      ⟨some 29, some (24, false), .fldA 0 (.t 28)⟩,
      ⟨some 30, some (24, false), .load false 1 (.t 29)⟩,
      ⟨some 31, some (24, false), .bin .neq (.t 27) (.t 30)⟩,
      ⟨some 32, none, .pick (.t 24) (.k (.bool true)) (.t 31)⟩])
    (.keep [2, 3, 32]
     (.cond (.t 32)
      (.seq
       (.ops [⟨some 4, none, .mv (.k (.bool false))⟩])
       .ret)
      .skip)))
   (.keep [2, 3]
    (.seq
     (.ops [⟨some 33, none, .fldA 1 (.t 2)⟩,
       ⟨some 34, none, .fldA 0 (.t 33)⟩,
       ⟨some 35, none, .load false 1 (.t 34)⟩,
       ⟨some 36, none, .fldA 1 (.t 3)⟩,
       ⟨some 37, none, .fldA 0 (.t 36)⟩,
       ⟨some 38, none, .load false 1 (.t 37)⟩,
       ⟨some 39, none, .call 315 [.t 35, .t 38]⟩,
       ⟨some 40, none, .mv (.t 39)⟩,
       ⟨some 41, some (40, true), .fldA 1 (.t 2)⟩,
       ⟨some 42, some (40, true), .fldA 1 (.t 41)⟩,
       ⟨some 43, some (40, true), .load false 1 (.t 42)⟩,
       ⟨some 44, some (40, true), .fldA 1 (.t 3)⟩,
       ⟨some 45, some (40, true), .fldA 1 (.t 44)⟩,
       ⟨some 46, some (40, true), .load false 1 (.t 45)⟩,
       ⟨some 47, some (40, true), .call 316 [.t 43, .t 46]⟩,
       ⟨some 48, none, .pick (.t 40) (.t 47) (.k (.bool false))⟩,
       ⟨some 49, none, .mv (.t 48)⟩,
       ⟨some 50, some (49, true), .fldA 1 (.t 2)⟩,
       ⟨some 51, some (49, true), .fldA 2 (.t 50)⟩,
       ⟨some 52, some (49, true), .load false 1 (.t 51)⟩,
       ⟨some 53, some (49, true), .fldA 1 (.t 3)⟩,
       ⟨some 54, some (49, true), .fldA 2 (.t 53)⟩,
       ⟨some 55, some (49, true), .load false 1 (.t 54)⟩,
       ⟨some 56, some (49, true), .call 317 [.t 52, .t 55]⟩,
       ⟨some 57, none, .pick (.t 49) (.t 56) (.k (.bool false))⟩,
       ⟨some 58, none, .mv (.t 57)⟩,
       ⟨some 59, some (58, true), .fldA 4 (.t 2)⟩,
       ⟨some 60, some (58, true), .fldA 1 (.t 59)⟩,
       ⟨some 61, some (58, true), .load false 1 (.t 60)⟩,
       ⟨some 62, some (58, true), .fldA 4 (.t 3)⟩,
       ⟨some 63, some (58, true), .fldA 1 (.t 62)⟩,
       ⟨some 64, some (58, true), .load false 1 (.t 63)⟩,
       ⟨some 65, some (58, true), .call 317 [.t 61, .t 64]⟩,
       ⟨some 66, none, .pick (.t 58) (.t 65) (.k (.bool false))⟩,
       ⟨some 4, none, .mv (.t 66)⟩])
     (.keep [4]
      .ret))))) }
structure N298 (R : Env) : Prop where
  o298 : R.Fn 298 c298
  n315 : N315 R
  n316 : N316 R
  n317 : N317 R
def c309 : IFn := { np := 1, rs := [.t 2], body :=
 (.seq
  (.ops [⟨some 1, none, .box 39 (.t 0)⟩,
    ⟨some 2, none, .mv (.k (.int .i64 0))⟩])
  (.seq
   (.seq
    (.ops [⟨some 3, none, .fldA 0 (.t 1)⟩,
      ⟨some 4, none, .load false 1 (.t 3)⟩])
    (.block 0
     (.seq
      (.ops [⟨some 6, none, .bin .eql (.t 4) (.k (.int .i64 1))⟩,
        ⟨some 5, none, .mv (.t 6)⟩])
      (.cond (.t 5)
       (.seq
        (.ops [⟨some 7, none, .fldA 1 (.t 1)⟩,
          ⟨some 8, none, .load true 3 (.t 7)⟩,
          ⟨some 9, none, .call 193 [.t 8]⟩,
          ⟨some 2, none, .mv (.t 9)⟩])
        .ret)
       (.seq
        (.ops [⟨some 11, none, .bin .eql (.t 4) (.k (.int .i64 2))⟩,
          ⟨some 10, none, .mv (.t 11)⟩])
        (.cond (.t 10)
         (.seq
          (.ops [⟨some 12, none, .fldA 4 (.t 1)⟩,
            ⟨some 13, none, .load true 2 (.t 12)⟩,
            ⟨some 14, none, .call 84 [.t 13]⟩,
            ⟨some 2, none, .mv (.t 14)⟩])
          .ret)
         (.seq
          (.ops [⟨some 16, none, .bin .eql (.t 4) (.k (.int .i64 3))⟩,
            ⟨some 15, none, .mv (.t 16)⟩])
          (.cond (.t 15)
           (.seq
            (.ops [⟨some 17, none, .fldA 6 (.t 1)⟩,
              ⟨some 18, none, .load true 5 (.t 17)⟩,
              ⟨some 19, none, .call 290 [.t 18]⟩,
              ⟨some 2, none, .mv (.t 19)⟩])
            .ret)
           (.seq
            (.ops [⟨some 21, none, .bin .eql (.t 4) (.k (.int .i64 4))⟩,
              ⟨some 20, none, .mv (.t 21)⟩])
            (.cond (.t 20)
             (.seq
              (.ops [⟨some 22, none, .fldA 11 (.t 1)⟩,
                ⟨some 23, none, .load true 13 (.t 22)⟩,
                ⟨some 24, none, .call 292 [.t 23]⟩,
                ⟨some 2, none, .mv (.t 24)⟩])
              .ret)
             .skip))))))))))
   (.keep []
    (.seq
     (.ops [⟨some 2, none, .mv (.k (.int .i64 12))⟩])
     .ret)))) }
structure N309 (R : Env) : Prop where
  o309 : R.Fn 309 c309
  n84 : N84 R
  n193 : N193 R
  n290 : N290 R
  n292 : N292 R
def c310 : IFn := { np := 1, rs := [.cell 2 true 24], body :=
 (.seq
  (.ops [⟨some 1, none, .box 39 (.t 0)⟩,
    ⟨some 2, none, .alloc 39 [.int .i64 0, .nils, .nils, .nils, .int .i64 0, .nils, .int .i64 0, .int .i64 0, .int .i64 0, .int .i64 0, .int .i64 0, .int .i64 0, .int .i64 0, .int .i64 0, .int .i64 0, .int .i64 0, .int .i64 0, .int .i64 0, .int .i64 0, .int .i64 0, .int .i64 0, .int .i64 0, .int .i64 0, .int .i64 0]⟩])
  (.seq
   (.seq
    (.ops [⟨some 3, none, .fldA 0 (.t 1)⟩,
      ⟨some 4, none, .load false 1 (.t 3)⟩])
    (.block 0
     (.seq
      (.ops [⟨some 6, none, .bin .eql (.t 4) (.k (.int .i64 1))⟩,
        ⟨some 5, none, .mv (.t 6)⟩])
      (.cond (.t 5)
       (.ops [⟨some 7, none, .build [.nils, .nils, .nils] []⟩,
         ⟨some 8, none, .fldA 1 (.t 1)⟩,
         ⟨none, none, .store 3 (.t 8) (.t 7)⟩])
       (.seq
        (.ops [⟨some 10, none, .bin .eql (.t 4) (.k (.int .i64 2))⟩,
          ⟨some 9, none, .mv (.t 10)⟩])
        (.cond (.t 9)
         (.ops [⟨some 11, none, .build [.int .i64 0, .nils] []⟩,
           ⟨some 12, none, .fldA 4 (.t 1)⟩,
           ⟨none, none, .store 2 (.t 12) (.t 11)⟩])
         (.seq
          (.ops [⟨some 14, none, .bin .eql (.t 4) (.k (.int .i64 3))⟩,
            ⟨some 13, none, .mv (.t 14)⟩])
          (.cond (.t 13)
           (.ops [⟨some 15, none, .build [.int .i64 0, .int .i64 0, .int .i64 0, .int .i64 0, .int .i64 0] []⟩,
             ⟨some 16, none, .fldA 6 (.t 1)⟩,
             ⟨none, none, .store 5 (.t 16) (.t 15)⟩])
           (.seq
            (.ops [⟨some 18, none, .bin .eql (.t 4) (.k (.int .i64 4))⟩,
              ⟨some 17, none, .mv (.t 18)⟩])
            (.cond (.t 17)
             (.ops [⟨some 19, none, .build [.int .i64 0, .int .i64 0, .int .i64 0, .int .i64 0, .int .i64 0, .int .i64 0, .int .i64 0, .int .i64 0, .int .i64 0, .int .i64 0, .int .i64 0, .int .i64 0, .int .i64 0] []⟩,
               ⟨some 20, none, .fldA 11 (.t 1)⟩,
               ⟨none, none, .store 13 (.t 20) (.t 19)⟩])
             .skip))))))))))
   (.keep [1, 2]
    (.seq
     (.ops [⟨some 21, none, .load true 24 (.t 1)⟩,
       ⟨none, none, .store 24 (.t 2) (.t 21)⟩])
     .ret)))) }
structure N310 (R : Env) : Prop where
  o310 : R.Fn 310 c310
def c311 : IFn := { np := 1, rs := [.t 2], body :=
 (.seq
  (.ops [⟨some 1, none, .box 39 (.t 0)⟩,
    ⟨some 2, none, .mv (.k (.nils))⟩])
  (.seq
   (.seq
    (.ops [⟨some 16, none, .fldA 0 (.t 1)⟩,
      ⟨some 17, none, .load false 1 (.t 16)⟩])
    (.block 0
     (.seq
      (.ops [⟨some 19, none, .bin .eql (.t 17) (.k (.int .i64 1))⟩,
        ⟨some 18, none, .mv (.t 19)⟩])
      (.cond (.t 18)
       (.seq
        (.ops [⟨some 21, none, .fldA 1 (.t 1)⟩,
          ⟨some 22, none, .load true 3 (.t 21)⟩,
          ⟨some 23, none, .call 196 [.t 22]⟩,
          ⟨some 20, none, .mv (.t 23)⟩,
          ⟨some 24, none, .ext (.t 20) 0⟩,
          ⟨some 25, none, .ext (.t 20) 1⟩,
          ⟨some 3, none, .mv (.t 24)⟩,
          ⟨some 4, none, .mv (.t 25)⟩])
        (.keep [3]
         (.seq
          (.ops [⟨some 26, none, .mv (.t 3)⟩,
            ⟨some 2, none, .mv (.t 26)⟩])
          .ret)))
       (.seq
        (.ops [⟨some 28, none, .bin .eql (.t 17) (.k (.int .i64 2))⟩,
          ⟨some 27, none, .mv (.t 28)⟩])
        (.cond (.t 27)
         (.seq
          (.ops [⟨some 30, none, .fldA 4 (.t 1)⟩,
            ⟨some 31, none, .load true 2 (.t 30)⟩,
            ⟨some 32, none, .call 82 [.t 31]⟩,
            ⟨some 29, none, .mv (.t 32)⟩,
            ⟨some 33, none, .ext (.t 29) 0⟩,
            ⟨some 34, none, .ext (.t 29) 1⟩,
            ⟨some 5, none, .mv (.t 33)⟩,
            ⟨some 6, none, .mv (.t 34)⟩])
          (.keep [5]
           (.seq
            (.ops [⟨some 35, none, .mv (.t 5)⟩,
              ⟨some 2, none, .mv (.t 35)⟩])
            .ret)))
         (.seq
          (.ops [⟨some 37, none, .bin .eql (.t 17) (.k (.int .i64 3))⟩,
            ⟨some 36, none, .mv (.t 37)⟩])
          (.cond (.t 36)
           (.seq
            (.ops [⟨some 38, none, .fldA 6 (.t 1)⟩,
              ⟨some 39, none, .load true 5 (.t 38)⟩,
              ⟨some 7, none, .alloc 40 [.int .i64 0, .int .i64 0, .int .i64 0, .int .i64 0, .int .i64 0]⟩,
              ⟨none, none, .store 5 (.t 7) (.t 39)⟩])
            (.seq
             (.ops [⟨some 40, none, .fldA 0 (.t 7)⟩,
               ⟨some 41, none, .load false 1 (.t 40)⟩,
               ⟨some 42, none, .conv .u8 (.t 41)⟩,
               ⟨some 43, none, .bslice 4 1 1 [.int .u8 0] [(0, .t 42)]⟩,
               ⟨some 8, none, .mv (.t 43)⟩])
             (.keep [7, 8]
              (.seq
               (.seq
                (.ops [⟨some 44, none, .fldA 1 (.t 7)⟩,
                  ⟨some 45, none, .idxA 3 1 (.t 44) (.k (.int .i64 0))⟩,
                  ⟨some 46, none, .load false 1 (.t 45)⟩,
                  ⟨some 47, none, .fldA 1 (.t 7)⟩,
                  ⟨some 48, none, .idxA 3 1 (.t 47) (.k (.int .i64 1))⟩,
                  ⟨some 49, none, .load false 1 (.t 48)⟩,
                  ⟨some 50, none, .fldA 1 (.t 7)⟩,
                  ⟨some 51, none, .idxA 3 1 (.t 50) (.k (.int .i64 2))⟩,
                  ⟨some 52, none, .load false 1 (.t 51)⟩,
                  ⟨some 53, none, .fldA 4 (.t 7)⟩,
                  ⟨some 54, none, .load false 1 (.t 53)⟩,
                  ⟨some 55, none, .bslice 10 1 4 [.int .i64 0] [(0, .t 46), (1, .t 49), (2, .t 52), (3, .t 54)]⟩,
                  ⟨some 56, none, .lenS (.t 55)⟩,
                  ⟨some 57, none, .mv (.k (.int .i64 0))⟩])
                (.keep [8, 55, 56, 57]
                 (.block 1
                  (.loop
                   (.seq
                    (.ops [⟨some 58, none, .bin .lss (.t 57) (.t 56)⟩])
                    (.seq
                     (.cond (.t 58)
                      .skip
                      (.exit 1))
                     (.keep [8, 55, 56, 57]
                      (.seq
                       (.block 2
                        (.seq
                         (.ops [⟨some 59, none, .idxS 1 (.t 55) (.t 57)⟩,
                           ⟨some 60, none, .load false 1 (.t 59)⟩,
                           ⟨some 10, none, .mv (.t 60)⟩])
                         (.ops [⟨some 62, none, .mv (.t 8)⟩,
                           ⟨some 63, none, .mv (.t 10)⟩,
                           ⟨some 64, none, .conv .u64 (.t 63)⟩,
                           ⟨some 65, none, .bslice 6 1 1 [.int .u64 0] [(0, .t 64)]⟩,
                           ⟨some 66, none, .call 54 [.t 62, .k (.int .i64 2), .t 65]⟩,
                           ⟨some 61, none, .mv (.t 66)⟩,
                           ⟨some 67, none, .ext (.t 61) 0⟩,
                           ⟨some 68, none, .ext (.t 61) 1⟩,
                           ⟨some 8, none, .mv (.t 67)⟩])))
                       (.keep [8, 55, 56, 57]
                        (.ops [⟨some 69, none, .bin .add (.t 57) (.k (.int .i64 1))⟩,
                          ⟨some 57, none, .mv (.t 69)⟩]))))))))))
               (.keep [8]
                (.seq
                 (.ops [⟨some 70, none, .mv (.t 8)⟩,
                   ⟨some 2, none, .mv (.t 70)⟩])
                 .ret))))))
           .skip))))))))
   (.keep [1]
    (.seq
     (.ops [⟨some 71, none, .fldA 11 (.t 1)⟩,
       ⟨some 72, none, .load true 13 (.t 71)⟩,
       ⟨some 11, none, .alloc 41 [.int .i64 0, .int .i64 0, .int .i64 0, .int .i64 0, .int .i64 0, .int .i64 0, .int .i64 0, .int .i64 0, .int .i64 0, .int .i64 0, .int .i64 0, .int .i64 0, .int .i64 0]⟩,
       ⟨none, none, .store 13 (.t 11) (.t 72)⟩])
     (.seq
      (.ops [⟨some 74, none, .fldA 0 (.t 11)⟩,
        ⟨some 75, none, .load false 1 (.t 74)⟩,
        ⟨some 76, none, .conv .u8 (.t 75)⟩,
        ⟨some 77, none, .bslice 4 1 1 [.int .u8 0] [(0, .t 76)]⟩,
        ⟨some 78, none, .fldA 1 (.t 11)⟩,
        ⟨some 79, none, .idxA 3 1 (.t 78) (.k (.int .i64 0))⟩,
        ⟨some 80, none, .load false 1 (.t 79)⟩,
        ⟨some 81, none, .conv .u64 (.t 80)⟩,
        ⟨some 82, none, .fldA 1 (.t 11)⟩,
        ⟨some 83, none, .idxA 3 1 (.t 82) (.k (.int .i64 1))⟩,
        ⟨some 84, none, .load false 1 (.t 83)⟩,
        ⟨some 85, none, .conv .u64 (.t 84)⟩,
        ⟨some 86, none, .fldA 1 (.t 11)⟩,
        ⟨some 87, none, .idxA 3 1 (.t 86) (.k (.int .i64 2))⟩,
        ⟨some 88, none, .load false 1 (.t 87)⟩,
        ⟨some 89, none, .conv .u64 (.t 88)⟩,
        ⟨some 90, none, .bslice 6 1 3 [.int .u64 0] [(0, .t 81), (1, .t 85), (2, .t 89)]⟩,
        ⟨some 91, none, .call 54 [.t 77, .k (.int .i64 4), .t 90]⟩,
        ⟨some 73, none, .mv (.t 91)⟩,
        ⟨some 92, none, .ext (.t 73) 0⟩,
        ⟨some 93, none, .ext (.t 73) 1⟩,
        ⟨some 12, none, .mv (.t 92)⟩,
        ⟨some 13, none, .mv (.t 93)⟩])
      (.keep [11, 12]
       (.seq
        (.seq
         (.ops [⟨some 94, none, .fldA 4 (.t 11)⟩,
           ⟨some 95, none, .load true 3 (.t 94)⟩,
           ⟨some 96, none, .fldA 7 (.t 11)⟩,
           ⟨some 97, none, .load true 3 (.t 96)⟩,
           ⟨some 98, none, .fldA 10 (.t 11)⟩,
           ⟨some 99, none, .load true 3 (.t 98)⟩,
           ⟨some 100, none, .bslice 26 3 3 [.int .i64 0, .int .i64 0, .int .i64 0] [(0, .t 95), (1, .t 97), (2, .t 99)]⟩,
           ⟨some 101, none, .lenS (.t 100)⟩,
           ⟨some 102, none, .mv (.k (.int .i64 0))⟩])
         (.keep [12, 100, 101, 102]
          (.block 3
           (.loop
            (.seq
             (.ops [⟨some 103, none, .bin .lss (.t 102) (.t 101)⟩])
             (.seq
              (.cond (.t 103)
               .skip
               (.exit 3))
              (.keep [12, 100, 101, 102]
               (.seq
                (.block 4
                 (.seq
                  (.ops [⟨some 104, none, .idxS 3 (.t 100) (.t 102)⟩,
                    ⟨some 105, none, .load true 3 (.t 104)⟩,
                    ⟨some 15, none, .alloc 26 [.int .i64 0, .int .i64 0, .int .i64 0]⟩,
                    ⟨none, none, .store 3 (.t 15) (.t 105)⟩])
                  (.ops [⟨some 107, none, .mv (.t 12)⟩,
                    ⟨some 108, none, .fldA 0 (.t 15)⟩,
                    ⟨some 109, none, .load false 1 (.t 108)⟩,
                    ⟨some 110, none, .fldA 1 (.t 15)⟩,
                    ⟨some 111, none, .load false 1 (.t 110)⟩,
                    ⟨some 112, none, .fldA 2 (.t 15)⟩,
                    ⟨some 113, none, .load false 1 (.t 112)⟩,
                    ⟨some 114, none, .bslice 10 1 3 [.int .i64 0] [(0, .t 109), (1, .t 111), (2, .t 113)]⟩,
                    ⟨some 115, none, .call 71 [.t 107, .k (.int .i64 2), .t 114]⟩,
                    ⟨some 106, none, .mv (.t 115)⟩,
                    ⟨some 116, none, .ext (.t 106) 0⟩,
                    ⟨some 117, none, .ext (.t 106) 1⟩,
                    ⟨some 12, none, .mv (.t 116)⟩])))
                (.keep [12, 100, 101, 102]
                 (.ops [⟨some 118, none, .bin .add (.t 102) (.k (.int .i64 1))⟩,
                   ⟨some 102, none, .mv (.t 118)⟩]))))))))))
        (.keep [12]
         (.seq
          (.ops [⟨some 119, none, .mv (.t 12)⟩,
            ⟨some 2, none, .mv (.t 119)⟩])
          .ret))))))))) }
structure N311 (R : Env) : Prop where
  o311 : R.Fn 311 c311
  n54 : N54 R
  n71 : N71 R
  n82 : N82 R
  n196 : N196 R
def c294 : IFn := { np := 1, rs := [.t 2], body :=
 (.seq
  (.ops [⟨some 1, none, .box 39 (.t 0)⟩,
    ⟨some 2, none, .mv (.k (.int .i64 0))⟩])
  (.seq
   (.seq
    (.ops [⟨some 4, none, .load true 24 (.t 1)⟩,
      ⟨some 5, none, .call 309 [.t 4]⟩,
      ⟨some 3, none, .mv (.t 5)⟩])
    (.seq
     (.ops [⟨some 6, none, .mv (.t 3)⟩,
       ⟨some 7, none, .bin .neq (.t 6) (.k (.int .i64 0))⟩])
     (.cond (.t 7)
      (.seq
       (.ops [⟨some 8, none, .mv (.t 3)⟩,
         ⟨some 2, none, .mv (.t 8)⟩])
       .ret)
      .skip)))
   (.keep [1]
    (.seq
     (.seq
      (.draw [0, 1, 0, 4, 12, 31, 63] [[1], [9], [1], [11], [12], [10, 13], [14]] [⟨some 9, none, .load true 24 (.t 1)⟩,
        ⟨some 10, none, .call 310 [.t 9]⟩,
        ⟨some 11, none, .fldA 0 (.t 1)⟩,
        ⟨some 12, none, .load false 1 (.t 11)⟩,
        ⟨some 13, none, .build [.int .i64 0, .nils, .nils, .nils, .int .i64 0, .nils, .int .i64 0, .int .i64 0, .int .i64 0, .int .i64 0, .int .i64 0, .int .i64 0, .int .i64 0, .int .i64 0, .int .i64 0, .int .i64 0, .int .i64 0, .int .i64 0, .int .i64 0, .int .i64 0, .int .i64 0, .int .i64 0, .int .i64 0, .int .i64 0] [(0, 1, .t 12)]⟩,
        ⟨some 14, none, .call 298 [.t 10, .t 13]⟩,
        ⟨some 15, none, .un .not (.t 14)⟩])
      (.keep [1, 15]
       (.cond (.t 15)
        (.seq
         (.ops [⟨some 2, none, .mv (.k (.int .i64 5))⟩])
         .ret)
        .skip)))
     (.keep [1]
      (.seq
       (.seq
        (.draw [0, 1, 3, 0, 8, 27, 63] [[1], [16], [17], [1], [19], [20], [18, 21]] [⟨some 16, none, .load true 24 (.t 1)⟩,
          ⟨some 17, none, .call 311 [.t 16]⟩,
          ⟨some 18, none, .lenS (.t 17)⟩,
          ⟨some 19, none, .fldA 0 (.t 1)⟩,
          ⟨some 20, none, .load false 1 (.t 19)⟩,
          ⟨some 21, none, .call 37 [.t 20]⟩,
          ⟨some 22, none, .bin .gtr (.t 18) (.t 21)⟩])
        (.keep [22]
         (.cond (.t 22)
          (.seq
           (.ops [⟨some 2, none, .mv (.k (.int .i64 9))⟩])
           .ret)
          .skip)))
       (.keep []
        (.seq
         (.ops [⟨some 2, none, .mv (.k (.int .i64 0))⟩])
         .ret)))))))) }
structure N294 (R : Env) : Prop where
  o294 : R.Fn 294 c294
  n37 : N37 R
  n298 : N298 R
  n309 : N309 R
  n310 : N310 R
  n311 : N311 R
def c301 : IFn := { np := 1, rs := [.t 2, .t 3], body :=
 (.seq
  (.ops [⟨some 1, none, .box 39 (.t 0)⟩,
    ⟨some 2, none, .mv (.k (.nils))⟩,
    ⟨some 3, none, .mv (.k (.int .i64 0))⟩])
  (.seq
   (.seq
    (.ops [⟨some 5, none, .load true 24 (.t 1)⟩,
      ⟨some 6, none, .call 294 [.t 5]⟩,
      ⟨some 4, none, .mv (.t 6)⟩])
    (.seq
     (.ops [⟨some 7, none, .mv (.t 4)⟩,
       ⟨some 8, none, .bin .neq (.t 7) (.k (.int .i64 0))⟩])
     (.cond (.t 8)
      (.seq
       (.ops [⟨some 9, none, .mv (.t 4)⟩,
         ⟨some 2, none, .mv (.k (.nils))⟩,
         ⟨some 3, none, .mv (.t 9)⟩])
       .ret)
      .skip)))
   (.keep [1]
    (.seq
     (.ops [⟨some 10, none, .load true 24 (.t 1)⟩,
       ⟨some 11, none, .call 311 [.t 10]⟩,
       ⟨some 2, none, .mv (.t 11)⟩,
       ⟨some 3, none, .mv (.k (.int .i64 0))⟩])
     .ret)))) }
structure N301 (R : Env) : Prop where
  o301 : R.Fn 301 c301
  n294 : N294 R
  n311 : N311 R
def c318 : IFn := { np := 2, rs := [.t 4], body :=
 (.seq
  (.ops [⟨some 2, none, .box 42 (.t 0)⟩,
    ⟨some 4, none, .mv (.k (.int .i64 0))⟩])
  (.seq
   (.ops [⟨some 5, none, .fldA 0 (.t 2)⟩,
     ⟨some 6, none, .load false 1 (.t 5)⟩,
     ⟨some 7, none, .mv (.t 1)⟩,
     ⟨some 8, none, .call 57 [.t 6, .t 7]⟩,
     ⟨some 9, none, .conv .i64 (.t 8)⟩,
     ⟨some 4, none, .mv (.t 9)⟩])
   (.keep [4]
    .ret))) }
structure N318 (R : Env) : Prop where
  o318 : R.Fn 318 c318
  n57 : N57 R
def c319 : IFn := { np := 2, rs := [.cell 4 true 3], body :=
 (.seq
  (.ops [⟨some 2, none, .box 42 (.t 0)⟩,
    ⟨some 4, none, .alloc 13 [.int .i64 0, .int .i64 0, .int .i64 0]⟩])
  (.seq
   (.draw [0, 0, 3, 0, 0, 31, 0, 0, 255, 511, 1023] [[2], [1], [5, 6], [2], [1], [8, 9], [2], [1], [11, 12], [7, 10, 13], [4, 14]] [⟨some 5, none, .load true 1 (.t 2)⟩,
     ⟨some 6, none, .mv (.t 1)⟩,
     ⟨some 7, none, .call 318 [.t 5, .t 6]⟩,
     ⟨some 8, none, .load true 1 (.t 2)⟩,
     ⟨some 9, none, .mv (.t 1)⟩,
     ⟨some 10, none, .call 318 [.t 8, .t 9]⟩,
     ⟨some 11, none, .load true 1 (.t 2)⟩,
     ⟨some 12, none, .mv (.t 1)⟩,
     ⟨some 13, none, .call 318 [.t 11, .t 12]⟩,
     ⟨some 14, none, .build [.int .i64 0, .int .i64 0, .int .i64 0] [(0, 1, .t 7), (1, 1, .t 10), (2, 1, .t 13)]⟩,
     ⟨none, none, .store 3 (.t 4) (.t 14)⟩])
   (.keep [4]
    .ret))) }
structure N319 (R : Env) : Prop where
  o319 : R.Fn 319 c319
  n318 : N318 R
def c320 : IFn := { np := 1, rs := [.cell 2 true 3], body :=
 (.seq
  (.ops [⟨some 1, none, .box 42 (.t 0)⟩,
    ⟨some 2, none, .alloc 26 [.int .i64 0, .int .i64 0, .int .i64 0]⟩])
  (.seq
   (.draw [0, 1, 3, 0, 8, 31, 0, 64, 255, 511, 1023] [[1], [3], [4], [1], [6], [7], [1], [9], [10], [5, 8, 11], [2, 12]] [⟨some 3, none, .fldA 0 (.t 1)⟩,
     ⟨some 4, none, .load false 1 (.t 3)⟩,
     ⟨some 5, none, .call 76 [.t 4, .k (.int .i64 2)]⟩,
     ⟨some 6, none, .fldA 0 (.t 1)⟩,
     ⟨some 7, none, .load false 1 (.t 6)⟩,
     ⟨some 8, none, .call 76 [.t 7, .k (.int .i64 2)]⟩,
     ⟨some 9, none, .fldA 0 (.t 1)⟩,
     ⟨some 10, none, .load false 1 (.t 9)⟩,
     ⟨some 11, none, .call 76 [.t 10, .k (.int .i64 2)]⟩,
     ⟨some 12, none, .build [.int .i64 0, .int .i64 0, .int .i64 0] [(0, 1, .t 5), (1, 1, .t 8), (2, 1, .t 11)]⟩,
     ⟨none, none, .store 3 (.t 2) (.t 12)⟩])
   (.keep [2]
    .ret))) }
structure N320 (R : Env) : Prop where
  o320 : R.Fn 320 c320
  n76 : N76 R
def c304 : IFn := { np := 2, rs := [.cell 4 true 24, .t 5], body :=
 (.seq
  (.ops [⟨some 4, none, .alloc 39 [.int .i64 0, .nils, .nils, .nils, .int .i64 0, .nils, .int .i64 0, .int .i64 0, .int .i64 0, .int .i64 0, .int .i64 0, .int .i64 0, .int .i64 0, .int .i64 0, .int .i64 0, .int .i64 0, .int .i64 0, .int .i64 0, .int .i64 0, .int .i64 0, .int .i64 0, .int .i64 0, .int .i64 0, .int .i64 0]⟩,
    ⟨some 5, none, .mv (.k (.int .i64 0))⟩])
  (.seq
   (.ops [⟨some 10, none, .mv (.t 0)⟩,
     ⟨some 11, none, .build [.int .i64 0, .nils, .nils, .nils, .int .i64 0, .nils, .int .i64 0, .int .i64 0, .int .i64 0, .int .i64 0, .int .i64 0, .int .i64 0, .int .i64 0, .int .i64 0, .int .i64 0, .int .i64 0, .int .i64 0, .int .i64 0, .int .i64 0, .int .i64 0, .int .i64 0, .int .i64 0, .int .i64 0, .int .i64 0] [(0, 1, .t 10)]⟩,
     ⟨some 6, none, .alloc 39 [.int .i64 0, .nils, .nils, .nils, .int .i64 0, .nils, .int .i64 0, .int .i64 0, .int .i64 0, .int .i64 0, .int .i64 0, .int .i64 0, .int .i64 0, .int .i64 0, .int .i64 0, .int .i64 0, .int .i64 0, .int .i64 0, .int .i64 0, .int .i64 0, .int .i64 0, .int .i64 0, .int .i64 0, .int .i64 0]⟩,
     ⟨none, none, .store 24 (.t 6) (.t 11)⟩])
   (.seq
    (.ops [⟨some 7, none, .mv (.k (.int .i64 0))⟩])
    (.seq
     (.seq
      (.ops [⟨some 12, none, .mv (.t 1)⟩,
        ⟨some 13, none, .call 56 [.t 12]⟩,
        ⟨some 14, none, .build [.nilp] [(0, 1, .t 13)]⟩,
        ⟨some 8, none, .alloc 42 [.nilp]⟩,
        ⟨none, none, .store 1 (.t 8) (.t 14)⟩])
      (.keep [0, 1, 4, 6, 7, 8]
       (.seq
        (.ops [⟨some 15, none, .mv (.t 0)⟩])
        (.block 0
         (.seq
          (.ops [⟨some 17, none, .bin .eql (.t 15) (.k (.int .i64 1))⟩,
            ⟨some 16, none, .mv (.t 17)⟩])
          (.cond (.t 16)
           (.ops [⟨some 19, none, .mv (.t 1)⟩,
             ⟨some 20, none, .call 202 [.t 19]⟩,
             ⟨some 18, none, .mv (.t 20)⟩,
             ⟨some 21, none, .ext (.t 18) 0⟩,
             ⟨some 22, none, .ext (.t 18) 1⟩,
             ⟨some 23, none, .fldA 1 (.t 6)⟩,
             ⟨none, none, .store 3 (.t 23) (.t 21)⟩,
             ⟨some 7, none, .mv (.t 22)⟩])
           (.seq
            (.ops [⟨some 25, none, .bin .eql (.t 15) (.k (.int .i64 2))⟩,
              ⟨some 24, none, .mv (.t 25)⟩])
            (.cond (.t 24)
             (.ops [⟨some 27, none, .mv (.t 1)⟩,
               ⟨some 28, none, .call 97 [.t 27]⟩,
               ⟨some 26, none, .mv (.t 28)⟩,
               ⟨some 29, none, .ext (.t 26) 0⟩,
               ⟨some 30, none, .ext (.t 26) 1⟩,
               ⟨some 31, none, .fldA 4 (.t 6)⟩,
               ⟨none, none, .store 2 (.t 31) (.t 29)⟩,
               ⟨some 7, none, .mv (.t 30)⟩])
             (.seq
              (.ops [⟨some 33, none, .bin .eql (.t 15) (.k (.int .i64 3))⟩,
                ⟨some 32, none, .mv (.t 33)⟩])
              (.cond (.t 32)
               (.seq
                (.draw [0, 1, 0, 7, 0, 31, 63, 127, 255] [[8], [34], [8], [36], [8], [38], [35, 37, 39], [6], [41, 40]] [⟨some 34, none, .load true 1 (.t 8)⟩,
                  ⟨some 35, none, .call 318 [.t 34, .k (.int .i64 1)]⟩,
                  ⟨some 36, none, .load true 1 (.t 8)⟩,
                  ⟨some 37, none, .call 319 [.t 36, .k (.int .i64 2)]⟩,
                  ⟨some 38, none, .load true 1 (.t 8)⟩,
                  ⟨some 39, none, .call 318 [.t 38, .k (.int .i64 2)]⟩,
                  ⟨some 40, none, .build [.int .i64 0, .int .i64 0, .int .i64 0, .int .i64 0, .int .i64 0] [(0, 1, .t 35), (1, 3, .t 37), (4, 1, .t 39)]⟩,
                  ⟨some 41, none, .fldA 6 (.t 6)⟩,
                  ⟨none, none, .store 5 (.t 41) (.t 40)⟩])
                (.keep [4, 6, 8]
                 (.ops [⟨some 42, none, .fldA 0 (.t 8)⟩,
                   ⟨some 43, none, .load false 1 (.t 42)⟩,
                   ⟨some 44, none, .call 60 [.t 43]⟩,
                   ⟨some 7, none, .mv (.t 44)⟩])))
               (.seq
                (.ops [⟨some 46, none, .bin .eql (.t 15) (.k (.int .i64 4))⟩,
                  ⟨some 45, none, .mv (.t 46)⟩])
                (.cond (.t 45)
                 (.seq
                  (.draw [0, 1, 0, 7, 0, 31, 0, 127, 0, 511, 1023, 2047, 4095] [[8], [47], [8], [49], [8], [51], [8], [53], [8], [55], [48, 50, 52, 54, 56], [6], [58, 57]] [⟨some 47, none, .load true 1 (.t 8)⟩,
                    ⟨some 48, none, .call 318 [.t 47, .k (.int .i64 1)]⟩,
                    ⟨some 49, none, .load true 1 (.t 8)⟩,
                    ⟨some 50, none, .call 319 [.t 49, .k (.int .i64 4)]⟩,
                    ⟨some 51, none, .load true 1 (.t 8)⟩,
                    ⟨some 52, none, .call 320 [.t 51]⟩,
                    ⟨some 53, none, .load true 1 (.t 8)⟩,
                    ⟨some 54, none, .call 320 [.t 53]⟩,
                    ⟨some 55, none, .load true 1 (.t 8)⟩,
                    ⟨some 56, none, .call 320 [.t 55]⟩,
                    ⟨some 57, none, .build [.int .i64 0, .int .i64 0, .int .i64 0, .int .i64 0, .int .i64 0, .int .i64 0, .int .i64 0, .int .i64 0, .int .i64 0, .int .i64 0, .int .i64 0, .int .i64 0, .int .i64 0] [(0, 1, .t 48), (1, 3, .t 50), (4, 3, .t 52), (7, 3, .t 54), (10, 3, .t 56)]⟩,
                    ⟨some 58, none, .fldA 11 (.t 6)⟩,
                    ⟨none, none, .store 13 (.t 58) (.t 57)⟩])
                  (.keep [4, 6, 8]
                   (.ops [⟨some 59, none, .fldA 0 (.t 8)⟩,
                     ⟨some 60, none, .load false 1 (.t 59)⟩,
                     ⟨some 61, none, .call 60 [.t 60]⟩,
                     ⟨some 7, none, .mv (.t 61)⟩])))
                 .skip))))))))))))
     (.keep [4, 6, 7]
      (.seq
       (.seq
        (.ops [⟨some 62, none, .mv (.t 7)⟩,
          ⟨some 63, none, .bin .neq (.t 62) (.k (.int .i64 0))⟩])
        (.cond (.t 63)
         (.seq
          (.ops [⟨some 64, none, .build [.int .i64 0, .nils, .nils, .nils, .int .i64 0, .nils, .int .i64 0, .int .i64 0, .int .i64 0, .int .i64 0, .int .i64 0, .int .i64 0, .int .i64 0, .int .i64 0, .int .i64 0, .int .i64 0, .int .i64 0, .int .i64 0, .int .i64 0, .int .i64 0, .int .i64 0, .int .i64 0, .int .i64 0, .int .i64 0] []⟩,
            ⟨some 65, none, .mv (.t 7)⟩,
            ⟨none, none, .store 24 (.t 4) (.t 64)⟩,
            ⟨some 5, none, .mv (.t 65)⟩])
          .ret)
         .skip))
       (.keep [4, 6]
        (.seq
         (.seq
          (.ops [⟨some 66, none, .load true 24 (.t 6)⟩,
            ⟨some 67, none, .call 294 [.t 66]⟩,
            ⟨some 9, none, .mv (.t 67)⟩])
          (.seq
           (.ops [⟨some 68, none, .mv (.t 9)⟩,
             ⟨some 69, none, .bin .neq (.t 68) (.k (.int .i64 0))⟩])
           (.cond (.t 69)
            (.seq
             (.ops [⟨some 70, none, .build [.int .i64 0, .nils, .nils, .nils, .int .i64 0, .nils, .int .i64 0, .int .i64 0, .int .i64 0, .int .i64 0, .int .i64 0, .int .i64 0, .int .i64 0, .int .i64 0, .int .i64 0, .int .i64 0, .int .i64 0, .int .i64 0, .int .i64 0, .int .i64 0, .int .i64 0, .int .i64 0, .int .i64 0, .int .i64 0] []⟩,
               ⟨some 71, none, .mv (.t 9)⟩,
               ⟨none, none, .store 24 (.t 4) (.t 70)⟩,
               ⟨some 5, none, .mv (.t 71)⟩])
             .ret)
            .skip)))
         (.keep [4, 6]
          (.seq
           (.ops [⟨some 72, none, .load true 24 (.t 6)⟩,
             ⟨none, none, .store 24 (.t 4) (.t 72)⟩,
             ⟨some 5, none, .mv (.k (.int .i64 0))⟩])
           .ret)))))))))) }
structure N304 (R : Env) : Prop where
  o304 : R.Fn 304 c304
  n56 : N56 R
  n60 : N60 R
  n97 : N97 R
  n202 : N202 R
  n294 : N294 R
  n318 : N318 R
  n319 : N319 R
  n320 : N320 R
end Go.UM

namespace Go.UM
open Go.AM
def c191 : IFn := { np := 1, rs := [.cell 2 true 3], body :=
 (.seq
  (.ops [⟨some 1, none, .box 25 (.t 0)⟩,
    ⟨some 2, none, .alloc 25 [.nils, .nils, .nils]⟩])
  (.seq
   (.draw [0, 1, 0, 4, 12, 28, 63, 0, 128, 0, 512, 1536, 3584, 8064, 0, 16384, 0, 65536, 196608, 458752, 1032192, 2097151, 4194303] [[1], [3], [1], [5], [6], [7], [4, 8], [1], [10], [1], [12], [13], [14], [11, 15], [1], [17], [1], [19], [20], [21], [18, 22], [9, 16, 23], [2, 24]] [⟨some 3, none, .fldA 0 (.t 1)⟩,
     ⟨some 4, none, .load false 1 (.t 3)⟩,
     ⟨some 5, none, .fldA 0 (.t 1)⟩,
     ⟨some 6, none, .load false 1 (.t 5)⟩,
     ⟨some 7, none, .lenS (.t 6)⟩,
     ⟨some 8, none, .mm false [.t 7, .k (.int .i64 70)]⟩,
     ⟨some 9, none, .slcS 26 3 (.t 4) none (some (.t 8)) none⟩,
     ⟨some 10, none, .fldA 1 (.t 1)⟩,
     ⟨some 11, none, .load false 1 (.t 10)⟩,
     ⟨some 12, none, .fldA 1 (.t 1)⟩,
     ⟨some 13, none, .load false 1 (.t 12)⟩,
     ⟨some 14, none, .lenS (.t 13)⟩,
     ⟨some 15, none, .mm false [.t 14, .k (.int .i64 70)]⟩,
     ⟨some 16, none, .slcS 18 2 (.t 11) none (some (.t 15)) none⟩,
     ⟨some 17, none, .fldA 2 (.t 1)⟩,
     ⟨some 18, none, .load false 1 (.t 17)⟩,
     ⟨some 19, none, .fldA 2 (.t 1)⟩,
     ⟨some 20, none, .load false 1 (.t 19)⟩,
     ⟨some 21, none, .lenS (.t 20)⟩,
     ⟨some 22, none, .mm false [.t 21, .k (.int .i64 70)]⟩,
     ⟨some 23, none, .slcS 13 3 (.t 18) none (some (.t 22)) none⟩,
     ⟨some 24, none, .build [.nils, .nils, .nils] [(0, 1, .t 9), (1, 1, .t 16), (2, 1, .t 23)]⟩,
     ⟨none, none, .store 3 (.t 2) (.t 24)⟩])
   (.keep [2]
    .ret))) }
structure N191 (R : Env) : Prop where
  o191 : R.Fn 191 c191
end Go.UM

namespace Go.UM
open Go.AM
def c63 : IFn := { np := 1, rs := [.t 2], body :=
 (.seq
  (.ops [⟨some 2, none, .mv (.k (.int .u64 0))⟩])
  (.seq
   (.ops [⟨some 3, none, .mv (.k (.int .u64 0))⟩])
   (.seq
    (.seq
     (.ops [⟨some 4, none, .mv (.k (.int .i64 0))⟩])
     (.keep [0, 3, 4]
      (.block 0
       (.loop
        (.seq
         (.seq
          (.ops [⟨some 5, none, .mv (.t 4)⟩,
            ⟨some 6, none, .mv (.t 0)⟩,
            ⟨some 7, none, .bin .lss (.t 5) (.t 6)⟩])
          (.cond (.t 7)
           .skip
           (.exit 0)))
         (.keep [0, 3, 4]
          (.seq
           (.block 1
            (.ops [⟨some 10, none, .mv (.t 3)⟩,
              ⟨some 11, none, .bin .mul (.t 10) (.k (.int .u64 256))⟩,
              ⟨some 12, none, .bin .add (.t 11) (.k (.int .u64 255))⟩,
              ⟨some 3, none, .mv (.t 12)⟩]))
           (.keep [0, 3, 4]
            (.ops [⟨some 8, none, .mv (.t 4)⟩,
              ⟨some 9, none, .bin .add (.t 8) (.k (.int .i64 1))⟩,
              ⟨some 4, none, .mv (.t 9)⟩])))))))))
    (.keep [3]
     (.seq
      (.ops [⟨some 13, none, .mv (.t 3)⟩,
        ⟨some 2, none, .mv (.t 13)⟩])
      .ret))))) }
structure N63 (R : Env) : Prop where
  o63 : R.Fn 63 c63
def c55 : IFn := { np := 3, rs := [.t 6, .t 7], body :=
 (.seq
  (.ops [⟨some 6, none, .mv (.k (.nils))⟩,
    ⟨some 7, none, .mv (.k (.int .i64 0))⟩])
  (.seq
   (.seq
    (.ops [⟨some 12, none, .mv (.t 1)⟩,
      ⟨some 13, none, .bin .lss (.t 12) (.k (.int .i64 1))⟩,
      ⟨some 14, none, .mv (.t 13)⟩,
      ⟨some 15, some (14, false), .mv (.t 1)⟩,
      ⟨some 16, some (14, false), .bin .gtr (.t 15) (.k (.int .i64 8))⟩,
      ⟨some 17, none, .pick (.t 14) (.k (.bool true)) (.t 16)⟩])
    (.keep [0, 1, 2, 17]
     (.cond (.t 17)
      (.seq
       (.ops [⟨some 6, none, .mv (.k (.nils))⟩,
         ⟨some 7, none, .mv (.k (.int .i64 2))⟩])
       .ret)
      .skip)))
   (.keep [0, 1, 2]
    (.seq
     (.ops [⟨some 18, none, .bslice 4 1 0 [.int .u8 0] []⟩,
       ⟨some 19, none, .mv (.t 0)⟩,
       ⟨some 20, none, .app 4 1 (.t 18) (.t 19)⟩,
       ⟨some 8, none, .mv (.t 20)⟩])
     (.seq
      (.seq
       (.ops [⟨some 9, none, .mv (.k (.int .i64 0))⟩])
       (.keep [1, 2, 8, 9]
        (.block 0
         (.loop
          (.seq
           (.seq
            (.ops [⟨some 21, none, .mv (.t 9)⟩,
              ⟨some 22, none, .mv (.t 2)⟩,
              ⟨some 23, none, .lenS (.t 22)⟩,
              ⟨some 24, none, .bin .lss (.t 21) (.t 23)⟩])
            (.cond (.t 24)
             .skip
             (.exit 0)))
           (.keep [1, 2, 8, 9]
            (.seq
             (.block 1
              (.seq
               (.seq
                (.draw [0, 0, 3, 7, 0, 16, 63] [[2], [9], [27, 28], [29], [1], [31], [30, 32]] [⟨some 27, none, .mv (.t 2)⟩,
                  ⟨some 28, none, .mv (.t 9)⟩,
                  ⟨some 29, none, .idxS 1 (.t 27) (.t 28)⟩,
                  ⟨some 30, none, .load false 1 (.t 29)⟩,
                  ⟨some 31, none, .mv (.t 1)⟩,
                  ⟨some 32, none, .call 63 [.t 31]⟩,
                  ⟨some 33, none, .bin .gtr (.t 30) (.t 32)⟩])
                (.keep [1, 2, 8, 9, 33]
                 (.cond (.t 33)
                  (.seq
                   (.ops [⟨some 6, none, .mv (.k (.nils))⟩,
                     ⟨some 7, none, .mv (.k (.int .i64 3))⟩])
                   .ret)
                  .skip)))
               (.keep [1, 2, 8, 9]
                (.seq
                 (.ops [⟨some 34, none, .mv (.t 2)⟩,
                   ⟨some 35, none, .mv (.t 9)⟩,
                   ⟨some 36, none, .idxS 1 (.t 34) (.t 35)⟩,
                   ⟨some 37, none, .load false 1 (.t 36)⟩,
                   ⟨some 10, none, .mv (.t 37)⟩])
                 (.keep [1, 2, 8, 9, 10]
                  (.seq
                   (.ops [⟨some 11, none, .mv (.k (.int .i64 0))⟩])
                   (.keep [1, 2, 8, 9, 10, 11]
                    (.block 2
                     (.loop
                      (.seq
                       (.seq
                        (.ops [⟨some 38, none, .mv (.t 11)⟩,
                          ⟨some 39, none, .mv (.t 1)⟩,
                          ⟨some 40, none, .bin .lss (.t 38) (.t 39)⟩])
                        (.cond (.t 40)
                         .skip
                         (.exit 2)))
                       (.keep [1, 2, 8, 9, 10, 11]
                        (.seq
                         (.block 3
                          (.seq
                           (.ops [⟨some 43, none, .mv (.t 8)⟩,
                             ⟨some 44, none, .mv (.t 10)⟩,
                             ⟨some 45, none, .bin .rem (.t 44) (.k (.int .u64 256))⟩,
                             ⟨some 46, none, .conv .u8 (.t 45)⟩,
                             ⟨some 47, none, .bslice 4 1 1 [.int .u8 0] [(0, .t 46)]⟩,
                             ⟨some 48, none, .app 4 1 (.t 43) (.t 47)⟩,
                             ⟨some 8, none, .mv (.t 48)⟩])
                           (.keep [1, 2, 8, 9, 10, 11]
                            (.ops [⟨some 49, none, .mv (.t 10)⟩,
                              ⟨some 50, none, .bin .quo (.t 49) (.k (.int .u64 256))⟩,
                              ⟨some 10, none, .mv (.t 50)⟩]))))
                         (.keep [1, 2, 8, 9, 10, 11]
                          (.ops [⟨some 41, none, .mv (.t 11)⟩,
                            ⟨some 42, none, .bin .add (.t 41) (.k (.int .i64 1))⟩,
                            ⟨some 11, none, .mv (.t 42)⟩]))))))))))))))
             (.keep [1, 2, 8, 9]
              (.ops [⟨some 25, none, .mv (.t 9)⟩,
                ⟨some 26, none, .bin .add (.t 25) (.k (.int .i64 1))⟩,
                ⟨some 9, none, .mv (.t 26)⟩])))))))))
      (.keep [8]
       (.seq
        (.ops [⟨some 51, none, .mv (.t 8)⟩,
          ⟨some 6, none, .mv (.t 51)⟩,
          ⟨some 7, none, .mv (.k (.int .i64 0))⟩])
        .ret))))))) }
structure N55 (R : Env) : Prop where
  o55 : R.Fn 55 c55
  n63 : N63 R
def c66 : IFn := { np := 2, rs := [.t 4], body :=
 (.seq
  (.ops [⟨some 4, none, .mv (.k (.nils))⟩])
  (.seq
   (.seq
    (.ops [⟨some 5, none, .mv (.t 0)⟩,
      ⟨some 6, none, .nilck (.t 5)⟩,
      ⟨some 7, none, .fldA 2 (.t 6)⟩,
      ⟨some 8, none, .load false 1 (.t 7)⟩,
      ⟨some 9, none, .bin .eql (.t 8) (.k (.int .i64 0))⟩,
      ⟨some 10, none, .mv (.t 9)⟩,
      ⟨some 11, some (10, true), .mv (.t 1)⟩,
      ⟨some 12, some (10, true), .bin .lss (.t 11) (.k (.int .i64 0))⟩,
      ⟨some 13, none, .pick (.t 10) (.t 12) (.k (.bool false))⟩])
    (.keep [0, 1, 13]
     (.cond (.t 13)
      (.ops [⟨some 14, none, .mv (.t 0)⟩,
        ⟨some 15, none, .nilck (.t 14)⟩,
        ⟨some 16, none, .fldA 2 (.t 15)⟩,
        ⟨none, none, .store 1 (.t 16) (.k (.int .i64 2))⟩])
      .skip)))
   (.keep [0, 1]
    (.seq
     (.seq
      (.draw [0, 1, 3, 7, 15, 31, 63, 63, 191, 447, 959, 1983, 63, 4159, 12351, 28735, 65471, 131071, 262143] [[0], [17], [18], [19], [20], [21], [1], [0], [24], [25], [26], [27], [0], [29], [30], [31], [28, 32], [23, 33], [22, 34]] [⟨some 17, none, .mv (.t 0)⟩,
        ⟨some 18, none, .nilck (.t 17)⟩,
        ⟨some 19, none, .fldA 2 (.t 18)⟩,
        ⟨some 20, none, .load false 1 (.t 19)⟩,
        ⟨some 21, none, .bin .eql (.t 20) (.k (.int .i64 0))⟩,
        ⟨some 22, none, .mv (.t 21)⟩,
        ⟨some 23, some (22, true), .mv (.t 1)⟩,
        ⟨some 24, some (22, true), .mv (.t 0)⟩,
        ⟨some 25, some (22, true), .nilck (.t 24)⟩,
        ⟨some 26, some (22, true), .fldA 0 (.t 25)⟩,
        ⟨some 27, some (22, true), .load false 1 (.t 26)⟩,
        ⟨some 28, some (22, true), .lenS (.t 27)⟩,
        ⟨some 29, some (22, true), .mv (.t 0)⟩,
        ⟨some 30, some (22, true), .nilck (.t 29)⟩,
        ⟨some 31, some (22, true), .fldA 1 (.t 30)⟩,
        ⟨some 32, some (22, true), .load false 1 (.t 31)⟩,
        ⟨some 33, some (22, true), .bin .sub (.t 28) (.t 32)⟩,
        ⟨some 34, some (22, true), .bin .gtr (.t 23) (.t 33)⟩,
        ⟨some 35, none, .pick (.t 22) (.t 34) (.k (.bool false))⟩])
      (.keep [0, 1, 35]
       (.cond (.t 35)
        (.ops [⟨some 36, none, .mv (.t 0)⟩,
          ⟨some 37, none, .nilck (.t 36)⟩,
          ⟨some 38, none, .fldA 2 (.t 37)⟩,
          ⟨none, none, .store 1 (.t 38) (.k (.int .i64 4))⟩])
        .skip)))
     (.keep [0, 1]
      (.seq
       (.seq
        (.ops [⟨some 39, none, .mv (.t 0)⟩,
          ⟨some 40, none, .nilck (.t 39)⟩,
          ⟨some 41, none, .fldA 2 (.t 40)⟩,
          ⟨some 42, none, .load false 1 (.t 41)⟩,
          ⟨some 43, none, .bin .neq (.t 42) (.k (.int .i64 0))⟩])
        (.keep [0, 1, 43]
         (.cond (.t 43)
          (.seq
           (.ops [⟨some 4, none, .mv (.k (.nils))⟩])
           .ret)
          .skip)))
       (.keep [0, 1]
        (.seq
         (.ops [⟨some 44, none, .mv (.t 0)⟩,
           ⟨some 45, none, .mv (.t 0)⟩,
           ⟨some 46, none, .nilck (.t 45)⟩,
           ⟨some 47, none, .fldA 1 (.t 46)⟩,
           ⟨some 48, none, .load false 1 (.t 47)⟩,
           ⟨some 49, none, .mv (.t 1)⟩,
           ⟨some 50, none, .bin .add (.t 48) (.t 49)⟩,
           ⟨some 51, none, .nilck (.t 44)⟩,
           ⟨some 52, none, .fldA 1 (.t 51)⟩,
           ⟨none, none, .store 1 (.t 52) (.t 50)⟩])
         (.keep [0, 1]
          (.seq
           (.draw [0, 1, 3, 7, 0, 16, 48, 112, 0, 496, 0, 1024, 3072, 7168, 16383, 32767] [[0], [53], [54], [55], [0], [57], [58], [59], [1], [60, 61], [0], [63], [64], [65], [56, 62, 66], [67]] [⟨some 53, none, .mv (.t 0)⟩,
             ⟨some 54, none, .nilck (.t 53)⟩,
             ⟨some 55, none, .fldA 0 (.t 54)⟩,
             ⟨some 56, none, .load false 1 (.t 55)⟩,
             ⟨some 57, none, .mv (.t 0)⟩,
             ⟨some 58, none, .nilck (.t 57)⟩,
             ⟨some 59, none, .fldA 1 (.t 58)⟩,
             ⟨some 60, none, .load false 1 (.t 59)⟩,
             ⟨some 61, none, .mv (.t 1)⟩,
             ⟨some 62, none, .bin .sub (.t 60) (.t 61)⟩,
             ⟨some 63, none, .mv (.t 0)⟩,
             ⟨some 64, none, .nilck (.t 63)⟩,
             ⟨some 65, none, .fldA 1 (.t 64)⟩,
             ⟨some 66, none, .load false 1 (.t 65)⟩,
             ⟨some 67, none, .slcS 4 1 (.t 56) (some (.t 62)) (some (.t 66)) none⟩,
             ⟨some 4, none, .mv (.t 67)⟩])
           (.keep [4]
            .ret))))))))))) }
structure N66 (R : Env) : Prop where
  o66 : R.Fn 66 c66
def c61 : IFn := { np := 2, rs := [.t 4], body :=
 (.seq
  (.ops [⟨some 4, none, .mv (.k (.int .u64 0))⟩])
  (.seq
   (.seq
    (.ops [⟨some 8, none, .mv (.t 0)⟩,
      ⟨some 9, none, .nilck (.t 8)⟩,
      ⟨some 10, none, .fldA 2 (.t 9)⟩,
      ⟨some 11, none, .load false 1 (.t 10)⟩,
      ⟨some 12, none, .bin .eql (.t 11) (.k (.int .i64 0))⟩,
      ⟨some 13, none, .mv (.t 12)⟩,
      ⟨some 14, some (13, true), .mv (.t 1)⟩,
      ⟨some 15, some (13, true), .bin .lss (.t 14) (.k (.int .i64 1))⟩,
      ⟨some 16, some (13, true), .mv (.t 15)⟩,
      ⟨some 17, some (16, false), .mv (.t 1)⟩,
      ⟨some 18, some (16, false), .bin .gtr (.t 17) (.k (.int .i64 8))⟩,
      ⟨some 19, some (13, true), .pick (.t 16) (.k (.bool true)) (.t 18)⟩,
      ⟨some 20, none, .pick (.t 13) (.t 19) (.k (.bool false))⟩])
    (.keep [0, 1, 20]
     (.cond (.t 20)
      (.ops [⟨some 21, none, .mv (.t 0)⟩,
        ⟨some 22, none, .nilck (.t 21)⟩,
        ⟨some 23, none, .fldA 2 (.t 22)⟩,
        ⟨none, none, .store 1 (.t 23) (.k (.int .i64 2))⟩])
      .skip)))
   (.keep [0, 1]
    (.seq
     (.ops [⟨some 24, none, .mv (.t 0)⟩,
       ⟨some 25, none, .mv (.t 1)⟩,
       ⟨some 26, none, .mm true [.t 25, .k (.int .i64 0)]⟩,
       ⟨some 27, none, .call 66 [.t 24, .t 26]⟩,
       ⟨some 5, none, .mv (.t 27)⟩])
     (.keep [5]
      (.seq
       (.ops [⟨some 6, none, .mv (.k (.int .u64 0))⟩])
       (.seq
        (.seq
         (.ops [⟨some 28, none, .mv (.t 5)⟩,
           ⟨some 29, none, .lenS (.t 28)⟩,
           ⟨some 30, none, .bin .sub (.t 29) (.k (.int .i64 1))⟩,
           ⟨some 7, none, .mv (.t 30)⟩])
         (.keep [5, 6, 7]
          (.block 0
           (.loop
            (.seq
             (.seq
              (.ops [⟨some 31, none, .mv (.t 7)⟩,
                ⟨some 32, none, .bin .geq (.t 31) (.k (.int .i64 0))⟩])
              (.cond (.t 32)
               .skip
               (.exit 0)))
             (.keep [5, 6, 7]
              (.seq
               (.block 1
                (.ops [⟨some 35, none, .mv (.t 6)⟩,
                  ⟨some 36, none, .bin .mul (.t 35) (.k (.int .u64 256))⟩,
                  ⟨some 37, none, .mv (.t 5)⟩,
                  ⟨some 38, none, .mv (.t 7)⟩,
                  ⟨some 39, none, .idxS 1 (.t 37) (.t 38)⟩,
                  ⟨some 40, none, .load false 1 (.t 39)⟩,
                  ⟨some 41, none, .conv .u64 (.t 40)⟩,
                  ⟨some 42, none, .bin .add (.t 36) (.t 41)⟩,
                  ⟨some 6, none, .mv (.t 42)⟩]))
               (.keep [5, 6, 7]
                (.ops [⟨some 33, none, .mv (.t 7)⟩,
                  ⟨some 34, none, .bin .sub (.t 33) (.k (.int .i64 1))⟩,
                  ⟨some 7, none, .mv (.t 34)⟩])))))))))
        (.keep [6]
         (.seq
          (.ops [⟨some 43, none, .mv (.t 6)⟩,
            ⟨some 4, none, .mv (.t 43)⟩])
          .ret))))))))) }
structure N61 (R : Env) : Prop where
  o61 : R.Fn 61 c61
  n66 : N66 R
def c69 : IFn := { np := 1, rs := [.t 2], body :=
 (.seq
  (.ops [⟨some 2, none, .mv (.k (.int .i64 0))⟩])
  (.seq
   (.seq
    (.draw [0, 1, 3, 7, 15, 31, 63, 127, 255, 511, 63, 1087, 3135, 7231, 15423, 32767, 65535] [[0], [3], [4], [5], [6], [7], [0], [9], [10], [11], [0], [13], [14], [15], [16], [12, 17], [8, 18]] [⟨some 3, none, .mv (.t 0)⟩,
      ⟨some 4, none, .nilck (.t 3)⟩,
      ⟨some 5, none, .fldA 2 (.t 4)⟩,
      ⟨some 6, none, .load false 1 (.t 5)⟩,
      ⟨some 7, none, .bin .eql (.t 6) (.k (.int .i64 0))⟩,
      ⟨some 8, none, .mv (.t 7)⟩,
      ⟨some 9, some (8, true), .mv (.t 0)⟩,
      ⟨some 10, some (8, true), .nilck (.t 9)⟩,
      ⟨some 11, some (8, true), .fldA 1 (.t 10)⟩,
      ⟨some 12, some (8, true), .load false 1 (.t 11)⟩,
      ⟨some 13, some (8, true), .mv (.t 0)⟩,
      ⟨some 14, some (8, true), .nilck (.t 13)⟩,
      ⟨some 15, some (8, true), .fldA 0 (.t 14)⟩,
      ⟨some 16, some (8, true), .load false 1 (.t 15)⟩,
      ⟨some 17, some (8, true), .lenS (.t 16)⟩,
      ⟨some 18, some (8, true), .bin .lss (.t 12) (.t 17)⟩,
      ⟨some 19, none, .pick (.t 8) (.t 18) (.k (.bool false))⟩])
    (.keep [0, 19]
     (.cond (.t 19)
      (.seq
       (.ops [⟨some 2, none, .mv (.k (.int .i64 5))⟩])
       .ret)
      .skip)))
   (.keep [0]
    (.seq
     (.ops [⟨some 20, none, .mv (.t 0)⟩,
       ⟨some 21, none, .nilck (.t 20)⟩,
       ⟨some 22, none, .fldA 2 (.t 21)⟩,
       ⟨some 23, none, .load false 1 (.t 22)⟩,
       ⟨some 2, none, .mv (.t 23)⟩])
     (.keep [2]
      .ret))))) }
structure N69 (R : Env) : Prop where
  o69 : R.Fn 69 c69
def c72 : IFn := { np := 3, rs := [.t 6, .t 7], body :=
 (.seq
  (.ops [⟨some 6, none, .mv (.k (.nils))⟩,
    ⟨some 7, none, .mv (.k (.int .i64 0))⟩])
  (.seq
   (.seq
    (.ops [⟨some 12, none, .mv (.t 1)⟩,
      ⟨some 13, none, .bin .lss (.t 12) (.k (.int .i64 1))⟩,
      ⟨some 14, none, .mv (.t 13)⟩,
      ⟨some 15, some (14, false), .mv (.t 1)⟩,
      ⟨some 16, some (14, false), .bin .gtr (.t 15) (.k (.int .i64 8))⟩,
      ⟨some 17, none, .pick (.t 14) (.k (.bool true)) (.t 16)⟩])
    (.keep [0, 1, 2, 17]
     (.cond (.t 17)
      (.seq
       (.ops [⟨some 6, none, .mv (.k (.nils))⟩,
         ⟨some 7, none, .mv (.k (.int .i64 2))⟩])
       .ret)
      .skip)))
   (.keep [0, 1, 2]
    (.seq
     (.ops [⟨some 18, none, .mv (.t 1)⟩,
       ⟨some 19, none, .call 63 [.t 18]⟩,
       ⟨some 20, none, .bin .quo (.t 19) (.k (.int .u64 2))⟩,
       ⟨some 21, none, .conv .i64 (.t 20)⟩,
       ⟨some 8, none, .mv (.t 21)⟩])
     (.keep [0, 1, 2, 8]
      (.seq
       (.ops [⟨some 9, none, .mv (.k (.nils))⟩])
       (.seq
        (.seq
         (.ops [⟨some 10, none, .mv (.k (.int .i64 0))⟩])
         (.keep [0, 1, 2, 8, 9, 10]
          (.block 0
           (.loop
            (.seq
             (.seq
              (.ops [⟨some 22, none, .mv (.t 10)⟩,
                ⟨some 23, none, .mv (.t 2)⟩,
                ⟨some 24, none, .lenS (.t 23)⟩,
                ⟨some 25, none, .bin .lss (.t 22) (.t 24)⟩])
              (.cond (.t 25)
               .skip
               (.exit 0)))
             (.keep [0, 1, 2, 8, 9, 10]
              (.seq
               (.block 1
                (.seq
                 (.seq
                  (.ops [⟨some 28, none, .mv (.t 2)⟩,
                    ⟨some 29, none, .mv (.t 10)⟩,
                    ⟨some 30, none, .idxS 1 (.t 28) (.t 29)⟩,
                    ⟨some 31, none, .load false 1 (.t 30)⟩,
                    ⟨some 32, none, .mv (.t 8)⟩,
                    ⟨some 33, none, .bin .gtr (.t 31) (.t 32)⟩,
                    ⟨some 34, none, .mv (.t 33)⟩,
                    ⟨some 35, some (34, false), .mv (.t 2)⟩,
                    ⟨some 36, some (34, false), .mv (.t 10)⟩,
                    ⟨some 37, some (34, false), .idxS 1 (.t 35) (.t 36)⟩,
                    ⟨some 38, some (34, false), .load false 1 (.t 37)⟩,
                    ⟨some 39, some (34, false), .mv (.t 8)⟩,
                    ⟨some 40, some (34, false), .un .neg (.t 39)⟩,
                    ⟨some 41, some (34, false), .bin .sub (.t 40) (.k (.int .i64 1))⟩,
                    ⟨some 42, some (34, false), .bin .lss (.t 38) (.t 41)⟩,
                    ⟨some 43, none, .pick (.t 34) (.k (.bool true)) (.t 42)⟩])
                  (.keep [0, 1, 2, 8, 9, 10, 43]
                   (.cond (.t 43)
                    (.seq
                     (.ops [⟨some 6, none, .mv (.k (.nils))⟩,
                       ⟨some 7, none, .mv (.k (.int .i64 3))⟩])
                     .ret)
                    .skip)))
                 (.keep [0, 1, 2, 8, 9, 10]
                  (.seq
                   (.ops [⟨some 44, none, .mv (.t 2)⟩,
                     ⟨some 45, none, .mv (.t 10)⟩,
                     ⟨some 46, none, .idxS 1 (.t 44) (.t 45)⟩,
                     ⟨some 47, none, .load false 1 (.t 46)⟩,
                     ⟨some 48, none, .conv .u64 (.t 47)⟩,
                     ⟨some 11, none, .mv (.t 48)⟩])
                   (.keep [0, 1, 2, 8, 9, 10, 11]
                    (.seq
                     (.seq
                      (.ops [⟨some 49, none, .mv (.t 2)⟩,
                        ⟨some 50, none, .mv (.t 10)⟩,
                        ⟨some 51, none, .idxS 1 (.t 49) (.t 50)⟩,
                        ⟨some 52, none, .load false 1 (.t 51)⟩,
                        ⟨some 53, none, .bin .lss (.t 52) (.k (.int .i64 0))⟩])
                      (.keep [0, 1, 2, 8, 9, 10, 11, 53]
                       (.cond (.t 53)
                        (.draw [0, 1, 0, 0, 12, 28, 60, 124, 252, 511, 1023] [[1], [54], [2], [10], [56, 57], [58], [59], [60], [61], [55, 62], [63]] [⟨some 54, none, .mv (.t 1)⟩,
                          ⟨some 55, none, .call 63 [.t 54]⟩,
                          ⟨some 56, none, .mv (.t 2)⟩,
                          ⟨some 57, none, .mv (.t 10)⟩,
                          ⟨some 58, none, .idxS 1 (.t 56) (.t 57)⟩,
                          ⟨some 59, none, .load false 1 (.t 58)⟩,
                          ⟨some 60, none, .bin .add (.t 59) (.k (.int .i64 1))⟩,
                          ⟨some 61, none, .un .neg (.t 60)⟩,
                          ⟨some 62, none, .conv .u64 (.t 61)⟩,
                          ⟨some 63, none, .bin .sub (.t 55) (.t 62)⟩,
                          ⟨some 11, none, .mv (.t 63)⟩])
                        .skip)))
                     (.keep [0, 1, 2, 8, 9, 10, 11]
                      (.ops [⟨some 64, none, .mv (.t 9)⟩,
                        ⟨some 65, none, .mv (.t 11)⟩,
                        ⟨some 66, none, .bslice 6 1 1 [.int .u64 0] [(0, .t 65)]⟩,
                        ⟨some 67, none, .app 6 1 (.t 64) (.t 66)⟩,
                        ⟨some 9, none, .mv (.t 67)⟩]))))))))
               (.keep [0, 1, 2, 8, 9, 10]
                (.ops [⟨some 26, none, .mv (.t 10)⟩,
                  ⟨some 27, none, .bin .add (.t 26) (.k (.int .i64 1))⟩,
                  ⟨some 10, none, .mv (.t 27)⟩])))))))))
        (.keep [0, 1, 9]
         (.seq
          (.ops [⟨some 68, none, .mv (.t 0)⟩,
            ⟨some 69, none, .mv (.t 1)⟩,
            ⟨some 70, none, .mv (.t 9)⟩,
            ⟨some 71, none, .call 55 [.t 68, .t 69, .t 70]⟩,
            ⟨some 72, none, .ext (.t 71) 0⟩,
            ⟨some 73, none, .ext (.t 71) 1⟩,
            ⟨some 6, none, .mv (.t 72)⟩,
            ⟨some 7, none, .mv (.t 73)⟩])
          (.keep [6, 7]
           .ret)))))))))) }
structure N72 (R : Env) : Prop where
  o72 : R.Fn 72 c72
  n55 : N55 R
  n63 : N63 R
def c77 : IFn := { np := 2, rs := [.t 4], body :=
 (.seq
  (.ops [⟨some 4, none, .mv (.k (.int .i64 0))⟩])
  (.seq
   (.ops [⟨some 6, none, .mv (.t 0)⟩,
     ⟨some 7, none, .mv (.t 1)⟩,
     ⟨some 8, none, .call 61 [.t 6, .t 7]⟩,
     ⟨some 5, none, .mv (.t 8)⟩])
   (.seq
    (.seq
     (.ops [⟨some 9, none, .mv (.t 0)⟩,
       ⟨some 10, none, .nilck (.t 9)⟩,
       ⟨some 11, none, .fldA 2 (.t 10)⟩,
       ⟨some 12, none, .load false 1 (.t 11)⟩,
       ⟨some 13, none, .bin .neq (.t 12) (.k (.int .i64 0))⟩])
     (.keep [1, 5, 13]
      (.cond (.t 13)
       (.seq
        (.ops [⟨some 4, none, .mv (.k (.int .i64 0))⟩])
        .ret)
       .skip)))
    (.keep [1, 5]
     (.seq
      (.seq
       (.ops [⟨some 14, none, .mv (.t 5)⟩,
         ⟨some 15, none, .mv (.t 1)⟩,
         ⟨some 16, none, .call 63 [.t 15]⟩,
         ⟨some 17, none, .bin .quo (.t 16) (.k (.int .u64 2))⟩,
         ⟨some 18, none, .bin .gtr (.t 14) (.t 17)⟩])
       (.keep [1, 5, 18]
        (.cond (.t 18)
         (.seq
          (.ops [⟨some 19, none, .mv (.t 1)⟩,
            ⟨some 20, none, .call 63 [.t 19]⟩,
            ⟨some 21, none, .mv (.t 5)⟩,
            ⟨some 22, none, .bin .sub (.t 20) (.t 21)⟩,
            ⟨some 23, none, .conv .i64 (.t 22)⟩,
            ⟨some 24, none, .un .neg (.t 23)⟩,
            ⟨some 25, none, .bin .sub (.t 24) (.k (.int .i64 1))⟩,
            ⟨some 4, none, .mv (.t 25)⟩])
          (.keep [4]
           .ret))
         .skip)))
      (.keep [5]
       (.seq
        (.ops [⟨some 26, none, .mv (.t 5)⟩,
          ⟨some 27, none, .conv .i64 (.t 26)⟩,
          ⟨some 4, none, .mv (.t 27)⟩])
        .ret))))))) }
structure N77 (R : Env) : Prop where
  o77 : R.Fn 77 c77
  n61 : N61 R
  n63 : N63 R
end Go.UM

namespace Go.UM
open Go.AM
def c38 : IFn := { np := 1, rs := [.t 2], body :=
 (.seq
  (.ops [⟨some 2, none, .mv (.k (.int .i64 0))⟩])
  (.seq
   (.seq
    (.ops [⟨some 3, none, .mv (.t 0)⟩])
    (.block 0
     (.seq
      (.ops [⟨some 5, none, .bin .eql (.t 3) (.k (.int .i64 1))⟩,
        ⟨some 4, none, .mv (.t 5)⟩])
      (.cond (.t 4)
       (.seq
        (.ops [⟨some 2, none, .mv (.k (.int .i64 2048))⟩])
        .ret)
       (.seq
        (.ops [⟨some 7, none, .bin .eql (.t 3) (.k (.int .i64 2))⟩,
          ⟨some 6, none, .mv (.t 7)⟩])
        (.cond (.t 6)
         (.seq
          (.ops [⟨some 2, none, .mv (.k (.int .i64 1024))⟩])
          .ret)
         (.seq
          (.seq
           (.ops [⟨some 9, none, .bin .eql (.t 3) (.k (.int .i64 3))⟩,
             ⟨some 8, none, .mv (.t 9)⟩])
           (.cond (.t 8)
            .skip
            (.ops [⟨some 10, none, .bin .eql (.t 3) (.k (.int .i64 4))⟩,
              ⟨some 8, none, .mv (.t 10)⟩])))
          (.keep [8]
           (.cond (.t 8)
            (.seq
             (.ops [⟨some 2, none, .mv (.k (.int .i64 64))⟩])
             .ret)
            .skip)))))))))
   (.keep []
    (.seq
     (.ops [⟨some 2, none, .mv (.k (.int .i64 0))⟩])
     .ret)))) }
structure N38 (R : Env) : Prop where
  o38 : R.Fn 38 c38
end Go.UM

namespace Go.UM
open Go.AM
def c213 : IFn := { np := 2, rs := [.t 4], body :=
 (.seq
  (.ops [⟨some 2, none, .box 26 (.t 0)⟩,
    ⟨some 4, none, .mv (.k (.bool false))⟩])
  (.seq
   (.ops [⟨some 5, none, .fldA 0 (.t 2)⟩,
     ⟨some 6, none, .load false 1 (.t 5)⟩,
     ⟨some 7, none, .mv (.t 1)⟩,
     ⟨some 8, none, .bin .gtr (.t 6) (.t 7)⟩,
     ⟨some 9, none, .mv (.t 8)⟩,
     ⟨some 10, some (9, false), .fldA 0 (.t 2)⟩,
     ⟨some 11, some (9, false), .load false 1 (.t 10)⟩,
     ⟨some 12, some (9, false), .mv (.t 1)⟩,
     ⟨some 13, some (9, false), .un .neg (.t 12)⟩,
     ⟨some 14, some (9, false), .bin .lss (.t 11) (.t 13)⟩,
     ⟨some 15, none, .pick (.t 9) (.k (.bool true)) (.t 14)⟩,
     ⟨some 16, none, .mv (.t 15)⟩,
     ⟨some 17, some (16, false), .fldA 1 (.t 2)⟩,
     ⟨some 18, some (16, false), .load false 1 (.t 17)⟩,
     ⟨some 19, some (16, false), .mv (.t 1)⟩,
     ⟨some 20, some (16, false), .bin .gtr (.t 18) (.t 19)⟩,
     ⟨some 21, none, .pick (.t 16) (.k (.bool true)) (.t 20)⟩,
     ⟨some 22, none, .mv (.t 21)⟩,
     ⟨some 23, some (22, false), .fldA 1 (.t 2)⟩,
     ⟨some 24, some (22, false), .load false 1 (.t 23)⟩,
     ⟨some 25, some (22, false), .mv (.t 1)⟩,
     ⟨some 26, some (22, false), .un .neg (.t 25)⟩,
     ⟨some 27, some (22, false), .bin .lss (.t 24) (.t 26)⟩,
     ⟨some 28, none, .pick (.t 22) (.k (.bool true)) (.t 27)⟩,
     ⟨some 29, none, .mv (.t 28)⟩,
     ⟨some 30, some (29, false), .fldA 2 (.t 2)⟩,
     ⟨some 31, some (29, false), .load false 1 (.t 30)⟩,
     ⟨some 32, some (29, false), .mv (.t 1)⟩,
     ⟨some 33, some (29, false), .bin .gtr (.t 31) (.t 32)⟩,
     ⟨some 34, none, .pick (.t 29) (.k (.bool true)) (.t 33)⟩,
     ⟨some 35, none, .mv (.t 34)⟩,
     ⟨some 36, some (35, false), .fldA 2 (.t 2)⟩,
     ⟨some 37, some (35, false), .load false 1 (.t 36)⟩,
     ⟨some 38, some (35, false), .mv (.t 1)⟩,
     ⟨some 39, some (35, false), .un .neg (.t 38)⟩,
     ⟨some 40, some (35, false), .bin .lss (.t 37) (.t 39)⟩,
     ⟨some 41, none, .pick (.t 35) (.k (.bool true)) (.t 40)⟩,
     ⟨some 4, none, .mv (.t 41)⟩])
   (.keep [4]
    .ret))) }
structure N213 (R : Env) : Prop where
  o213 : R.Fn 213 c213
def c198 : IFn := { np := 1, rs := [.t 2], body :=
 (.seq
  (.ops [⟨some 1, none, .box 25 (.t 0)⟩,
    ⟨some 2, none, .mv (.k (.int .i64 0))⟩])
  (.seq
   (.seq
    (.ops [⟨some 8, none, .fldA 0 (.t 1)⟩,
      ⟨some 9, none, .load false 1 (.t 8)⟩,
      ⟨some 10, none, .lenS (.t 9)⟩,
      ⟨some 11, none, .bin .gtr (.t 10) (.k (.int .i64 64))⟩,
      ⟨some 12, none, .mv (.t 11)⟩,
      ⟨some 13, some (12, false), .fldA 2 (.t 1)⟩,
      ⟨some 14, some (12, false), .load false 1 (.t 13)⟩,
      ⟨some 15, some (12, false), .lenS (.t 14)⟩,
      ⟨some 16, some (12, false), .bin .gtr (.t 15) (.k (.int .i64 64))⟩,
      ⟨some 17, none, .pick (.t 12) (.k (.bool true)) (.t 16)⟩])
    (.keep [1, 17]
     (.cond (.t 17)
      (.seq
       (.ops [⟨some 2, none, .mv (.k (.int .i64 3))⟩])
       .ret)
      .skip)))
   (.keep [1]
    (.seq
     (.seq
      (.ops [⟨some 18, none, .fldA 0 (.t 1)⟩,
        ⟨some 19, none, .load false 1 (.t 18)⟩,
        ⟨some 20, none, .lenS (.t 19)⟩,
        ⟨some 21, none, .bin .lss (.t 20) (.k (.int .i64 1))⟩,
        ⟨some 22, none, .mv (.t 21)⟩,
        ⟨some 23, some (22, false), .fldA 2 (.t 1)⟩,
        ⟨some 24, some (22, false), .load false 1 (.t 23)⟩,
        ⟨some 25, some (22, false), .lenS (.t 24)⟩,
        ⟨some 26, some (22, false), .bin .lss (.t 25) (.k (.int .i64 1))⟩,
        ⟨some 27, none, .pick (.t 22) (.k (.bool true)) (.t 26)⟩,
        ⟨some 28, none, .mv (.t 27)⟩,
        ⟨some 29, some (28, false), .fldA 1 (.t 1)⟩,
        ⟨some 30, some (28, false), .load false 1 (.t 29)⟩,
        ⟨some 31, some (28, false), .lenS (.t 30)⟩,
        ⟨some 32, some (28, false), .fldA 0 (.t 1)⟩,
        ⟨some 33, some (28, false), .load false 1 (.t 32)⟩,
        ⟨some 34, some (28, false), .lenS (.t 33)⟩,
        ⟨some 35, some (28, false), .bin .neq (.t 31) (.t 34)⟩,
        ⟨some 36, none, .pick (.t 28) (.k (.bool true)) (.t 35)⟩])
      (.keep [1, 36]
       (.cond (.t 36)
        (.seq
         (.ops [⟨some 2, none, .mv (.k (.int .i64 5))⟩])
         .ret)
        .skip)))
     (.keep [1]
      (.seq
       (.seq
        (.ops [⟨some 3, none, .mv (.k (.int .i64 0))⟩])
        (.keep [1, 3]
         (.block 0
          (.loop
           (.seq
            (.seq
             (.ops [⟨some 37, none, .mv (.t 3)⟩,
               ⟨some 38, none, .fldA 0 (.t 1)⟩,
               ⟨some 39, none, .load false 1 (.t 38)⟩,
               ⟨some 40, none, .lenS (.t 39)⟩,
               ⟨some 41, none, .bin .lss (.t 37) (.t 40)⟩])
             (.keep [1, 3, 41]
              (.cond (.t 41)
               .skip
               (.exit 0))))
            (.keep [1, 3]
             (.seq
              (.block 1
               (.seq
                (.ops [⟨some 44, none, .fldA 0 (.t 1)⟩,
                  ⟨some 45, none, .load false 1 (.t 44)⟩,
                  ⟨some 46, none, .mv (.t 3)⟩,
                  ⟨some 47, none, .idxS 3 (.t 45) (.t 46)⟩,
                  ⟨some 48, none, .load true 3 (.t 47)⟩,
                  ⟨some 49, none, .call 213 [.t 48, .k (.int .i64 4096)]⟩])
                (.keep [1, 3, 49]
                 (.cond (.t 49)
                  (.seq
                   (.ops [⟨some 2, none, .mv (.k (.int .i64 8))⟩])
                   .ret)
                  .skip))))
              (.keep [1, 3]
               (.ops [⟨some 42, none, .mv (.t 3)⟩,
                 ⟨some 43, none, .bin .add (.t 42) (.k (.int .i64 1))⟩,
                 ⟨some 3, none, .mv (.t 43)⟩])))))))))
       (.keep [1]
        (.seq
         (.seq
          (.ops [⟨some 4, none, .mv (.k (.int .i64 0))⟩])
          (.keep [1, 4]
           (.block 2
            (.loop
             (.seq
              (.seq
               (.ops [⟨some 50, none, .mv (.t 4)⟩,
                 ⟨some 51, none, .fldA 1 (.t 1)⟩,
                 ⟨some 52, none, .load false 1 (.t 51)⟩,
                 ⟨some 53, none, .lenS (.t 52)⟩,
                 ⟨some 54, none, .bin .lss (.t 50) (.t 53)⟩])
               (.keep [1, 4, 54]
                (.cond (.t 54)
                 .skip
                 (.exit 2))))
              (.keep [1, 4]
               (.seq
                (.block 3
                 (.seq
                  (.ops [⟨some 5, none, .mv (.k (.int .i64 0))⟩])
                  (.keep [1, 4, 5]
                   (.block 4
                    (.loop
                     (.seq
                      (.seq
                       (.ops [⟨some 57, none, .mv (.t 5)⟩,
                         ⟨some 58, none, .bin .lss (.t 57) (.k (.int .i64 2))⟩])
                       (.cond (.t 58)
                        .skip
                        (.exit 4)))
                      (.keep [1, 4, 5]
                       (.seq
                        (.block 5
                         (.seq
                          (.ops [⟨some 61, none, .fldA 1 (.t 1)⟩,
                            ⟨some 62, none, .load false 1 (.t 61)⟩,
                            ⟨some 63, none, .mv (.t 4)⟩,
                            ⟨some 64, none, .mv (.t 5)⟩,
                            ⟨some 65, none, .idxS 2 (.t 62) (.t 63)⟩,
                            ⟨some 66, none, .idxA 2 1 (.t 65) (.t 64)⟩,
                            ⟨some 67, none, .load false 1 (.t 66)⟩,
                            ⟨some 68, none, .bin .lss (.t 67) (.k (.int .i64 0))⟩,
                            ⟨some 69, none, .mv (.t 68)⟩,
                            ⟨some 70, some (69, false), .fldA 1 (.t 1)⟩,
                            ⟨some 71, some (69, false), .load false 1 (.t 70)⟩,
                            ⟨some 72, some (69, false), .mv (.t 4)⟩,
                            ⟨some 73, some (69, false), .mv (.t 5)⟩,
                            ⟨some 74, some (69, false), .idxS 2 (.t 71) (.t 72)⟩,
                            ⟨some 75, some (69, false), .idxA 2 1 (.t 74) (.t 73)⟩,
                            ⟨some 76, some (69, false), .load false 1 (.t 75)⟩,
                            ⟨some 77, some (69, false), .bin .gtr (.t 76) (.k (.int .i64 65535))⟩,
                            ⟨some 78, none, .pick (.t 69) (.k (.bool true)) (.t 77)⟩])
                          (.keep [1, 4, 5, 78]
                           (.cond (.t 78)
                            (.seq
                             (.ops [⟨some 2, none, .mv (.k (.int .i64 5))⟩])
                             .ret)
                            .skip))))
                        (.keep [1, 4, 5]
                         (.ops [⟨some 59, none, .mv (.t 5)⟩,
                           ⟨some 60, none, .bin .add (.t 59) (.k (.int .i64 1))⟩,
                           ⟨some 5, none, .mv (.t 60)⟩]))))))))))
                (.keep [1, 4]
                 (.ops [⟨some 55, none, .mv (.t 4)⟩,
                   ⟨some 56, none, .bin .add (.t 55) (.k (.int .i64 1))⟩,
                   ⟨some 4, none, .mv (.t 56)⟩])))))))))
         (.keep [1]
          (.seq
           (.seq
            (.ops [⟨some 6, none, .mv (.k (.int .i64 0))⟩])
            (.keep [1, 6]
             (.block 6
              (.loop
               (.seq
                (.seq
                 (.ops [⟨some 79, none, .mv (.t 6)⟩,
                   ⟨some 80, none, .fldA 2 (.t 1)⟩,
                   ⟨some 81, none, .load false 1 (.t 80)⟩,
                   ⟨some 82, none, .lenS (.t 81)⟩,
                   ⟨some 83, none, .bin .lss (.t 79) (.t 82)⟩])
                 (.keep [1, 6, 83]
                  (.cond (.t 83)
                   .skip
                   (.exit 6))))
                (.keep [1, 6]
                 (.seq
                  (.block 7
                   (.seq
                    (.ops [⟨some 7, none, .mv (.k (.int .i64 0))⟩])
                    (.keep [1, 6, 7]
                     (.block 8
                      (.loop
                       (.seq
                        (.seq
                         (.ops [⟨some 86, none, .mv (.t 7)⟩,
                           ⟨some 87, none, .bin .lss (.t 86) (.k (.int .i64 3))⟩])
                         (.cond (.t 87)
                          .skip
                          (.exit 8)))
                        (.keep [1, 6, 7]
                         (.seq
                          (.block 9
                           (.seq
                            (.draw [0, 1, 0, 0, 7, 31, 63, 127, 255, 511, 1023, 511, 511, 4095, 16383, 32767, 511, 66047, 197119, 524287, 1048575, 2097151, 4194303, 8388607, 4194303, 4194303, 33554431, 134217727, 268435455, 4194303, 541065215, 4194303, 4194303, 4299161599, 12889096191, 3762290687, 68186800127, 136906276863, 274877906943, 549755813887] [[1], [90], [6], [7], [91, 92], [94, 93], [95], [96], [97], [1], [99], [6], [7], [100, 101], [103, 102], [104], [1], [106], [107], [105, 108], [98, 109], [110], [1], [112], [6], [7], [113, 114], [116, 115], [117], [1], [119], [6], [7], [122], [123], [120, 121], [125, 124], [126], [118, 127], [111, 128]] [⟨some 90, none, .fldA 2 (.t 1)⟩,
                              ⟨some 91, none, .load false 1 (.t 90)⟩,
                              ⟨some 92, none, .mv (.t 6)⟩,
                              ⟨some 93, none, .mv (.t 7)⟩,
                              ⟨some 94, none, .idxS 3 (.t 91) (.t 92)⟩,
                              ⟨some 95, none, .idxA 3 1 (.t 94) (.t 93)⟩,
                              ⟨some 96, none, .load false 1 (.t 95)⟩,
                              ⟨some 97, none, .bin .lss (.t 96) (.k (.int .i64 0))⟩,
                              ⟨some 98, none, .mv (.t 97)⟩,
                              ⟨some 99, some (98, false), .fldA 2 (.t 1)⟩,
                              ⟨some 100, some (98, false), .load false 1 (.t 99)⟩,
                              ⟨some 101, some (98, false), .mv (.t 6)⟩,
                              ⟨some 102, some (98, false), .mv (.t 7)⟩,
                              ⟨some 103, some (98, false), .idxS 3 (.t 100) (.t 101)⟩,
                              ⟨some 104, some (98, false), .idxA 3 1 (.t 103) (.t 102)⟩,
                              ⟨some 105, some (98, false), .load false 1 (.t 104)⟩,
                              ⟨some 106, some (98, false), .fldA 0 (.t 1)⟩,
                              ⟨some 107, some (98, false), .load false 1 (.t 106)⟩,
                              ⟨some 108, some (98, false), .lenS (.t 107)⟩,
                              ⟨some 109, some (98, false), .bin .geq (.t 105) (.t 108)⟩,
                              ⟨some 110, none, .pick (.t 98) (.k (.bool true)) (.t 109)⟩,
                              ⟨some 111, none, .mv (.t 110)⟩,
                              ⟨some 112, some (111, false), .fldA 2 (.t 1)⟩,
                              ⟨some 113, some (111, false), .load false 1 (.t 112)⟩,
                              ⟨some 114, some (111, false), .mv (.t 6)⟩,
                              ⟨some 115, some (111, false), .mv (.t 7)⟩,
                              ⟨some 116, some (111, false), .idxS 3 (.t 113) (.t 114)⟩,
                              ⟨some 117, some (111, false), .idxA 3 1 (.t 116) (.t 115)⟩,
                              ⟨some 118, some (111, false), .load false 1 (.t 117)⟩,
                              ⟨some 119, some (111, false), .fldA 2 (.t 1)⟩,
                              ⟨some 120, some (111, false), .load false 1 (.t 119)⟩,
                              ⟨some 121, some (111, false), .mv (.t 6)⟩,
                              ⟨some 122, some (111, false), .mv (.t 7)⟩,
                              ⟨some 123, some (111, false), .bin .add (.t 122) (.k (.int .i64 1))⟩,
                              ⟨some 124, some (111, false), .bin .rem (.t 123) (.k (.int .i64 3))⟩,
                              ⟨some 125, some (111, false), .idxS 3 (.t 120) (.t 121)⟩,
                              ⟨some 126, some (111, false), .idxA 3 1 (.t 125) (.t 124)⟩,
                              ⟨some 127, some (111, false), .load false 1 (.t 126)⟩,
                              ⟨some 128, some (111, false), .bin .eql (.t 118) (.t 127)⟩,
                              ⟨some 129, none, .pick (.t 111) (.k (.bool true)) (.t 128)⟩])
                            (.keep [1, 6, 7, 129]
                             (.cond (.t 129)
                              (.seq
                               (.ops [⟨some 2, none, .mv (.k (.int .i64 5))⟩])
                               .ret)
                              .skip))))
                          (.keep [1, 6, 7]
                           (.ops [⟨some 88, none, .mv (.t 7)⟩,
                             ⟨some 89, none, .bin .add (.t 88) (.k (.int .i64 1))⟩,
                             ⟨some 7, none, .mv (.t 89)⟩]))))))))))
                  (.keep [1, 6]
                   (.ops [⟨some 84, none, .mv (.t 6)⟩,
                     ⟨some 85, none, .bin .add (.t 84) (.k (.int .i64 1))⟩,
                     ⟨some 6, none, .mv (.t 85)⟩])))))))))
           (.keep []
            (.seq
             (.ops [⟨some 2, none, .mv (.k (.int .i64 0))⟩])
             .ret)))))))))))) }
structure N198 (R : Env) : Prop where
  o198 : R.Fn 198 c198
  n213 : N213 R
def c212 : IFn := { np := 2, rs := [.t 4], body :=
 (.seq
  (.ops [⟨some 3, none, .box 26 (.t 1)⟩,
    ⟨some 4, none, .mv (.k (.nils))⟩])
  (.seq
   (.ops [⟨some 8, none, .mv (.t 0)⟩,
     ⟨some 9, none, .fldA 0 (.t 3)⟩,
     ⟨some 10, none, .load false 1 (.t 9)⟩,
     ⟨some 11, none, .fldA 1 (.t 3)⟩,
     ⟨some 12, none, .load false 1 (.t 11)⟩,
     ⟨some 13, none, .fldA 2 (.t 3)⟩,
     ⟨some 14, none, .load false 1 (.t 13)⟩,
     ⟨some 15, none, .bslice 10 1 3 [.int .i64 0] [(0, .t 10), (1, .t 12), (2, .t 14)]⟩,
     ⟨some 16, none, .call 72 [.t 8, .k (.int .i64 2), .t 15]⟩,
     ⟨some 7, none, .mv (.t 16)⟩,
     ⟨some 17, none, .ext (.t 7) 0⟩,
     ⟨some 18, none, .ext (.t 7) 1⟩,
     ⟨some 5, none, .mv (.t 17)⟩,
     ⟨some 6, none, .mv (.t 18)⟩])
   (.keep [5]
    (.seq
     (.ops [⟨some 19, none, .mv (.t 5)⟩,
       ⟨some 4, none, .mv (.t 19)⟩])
     .ret)))) }
structure N212 (R : Env) : Prop where
  o212 : R.Fn 212 c212
  n72 : N72 R
def c197 : IFn := { np := 1, rs := [.t 2, .t 3], body :=
 (.seq
  (.ops [⟨some 1, none, .box 25 (.t 0)⟩,
    ⟨some 2, none, .mv (.k (.nils))⟩,
    ⟨some 3, none, .mv (.k (.int .i64 0))⟩])
  (.seq
   (.seq
    (.ops [⟨some 11, none, .load true 3 (.t 1)⟩,
      ⟨some 12, none, .call 198 [.t 11]⟩,
      ⟨some 4, none, .mv (.t 12)⟩])
    (.seq
     (.ops [⟨some 13, none, .mv (.t 4)⟩,
       ⟨some 14, none, .bin .neq (.t 13) (.k (.int .i64 0))⟩])
     (.cond (.t 14)
      (.seq
       (.ops [⟨some 15, none, .mv (.t 4)⟩,
         ⟨some 2, none, .mv (.k (.nils))⟩,
         ⟨some 3, none, .mv (.t 15)⟩])
       .ret)
      .skip)))
   (.keep [1]
    (.seq
     (.ops [⟨some 16, none, .fldA 0 (.t 1)⟩,
       ⟨some 17, none, .load false 1 (.t 16)⟩,
       ⟨some 18, none, .lenS (.t 17)⟩,
       ⟨some 19, none, .conv .u8 (.t 18)⟩,
       ⟨some 20, none, .fldA 2 (.t 1)⟩,
       ⟨some 21, none, .load false 1 (.t 20)⟩,
       ⟨some 22, none, .lenS (.t 21)⟩,
       ⟨some 23, none, .conv .u8 (.t 22)⟩,
       ⟨some 24, none, .bslice 4 1 2 [.int .u8 0] [(0, .t 19), (1, .t 23)]⟩,
       ⟨some 5, none, .mv (.t 24)⟩])
     (.keep [1, 5]
      (.seq
       (.seq
        (.ops [⟨some 6, none, .mv (.k (.int .i64 0))⟩])
        (.keep [1, 5, 6]
         (.block 0
          (.loop
           (.seq
            (.seq
             (.ops [⟨some 25, none, .mv (.t 6)⟩,
               ⟨some 26, none, .fldA 0 (.t 1)⟩,
               ⟨some 27, none, .load false 1 (.t 26)⟩,
               ⟨some 28, none, .lenS (.t 27)⟩,
               ⟨some 29, none, .bin .lss (.t 25) (.t 28)⟩])
             (.keep [1, 5, 6, 29]
              (.cond (.t 29)
               .skip
               (.exit 0))))
            (.keep [1, 5, 6]
             (.seq
              (.block 1
               (.ops [⟨some 32, none, .mv (.t 5)⟩,
                 ⟨some 33, none, .fldA 0 (.t 1)⟩,
                 ⟨some 34, none, .load false 1 (.t 33)⟩,
                 ⟨some 35, none, .mv (.t 6)⟩,
                 ⟨some 36, none, .idxS 3 (.t 34) (.t 35)⟩,
                 ⟨some 37, none, .load true 3 (.t 36)⟩,
                 ⟨some 38, none, .call 212 [.t 32, .t 37]⟩,
                 ⟨some 5, none, .mv (.t 38)⟩]))
              (.keep [1, 5, 6]
               (.ops [⟨some 30, none, .mv (.t 6)⟩,
                 ⟨some 31, none, .bin .add (.t 30) (.k (.int .i64 1))⟩,
                 ⟨some 6, none, .mv (.t 31)⟩])))))))))
       (.keep [1, 5]
        (.seq
         (.seq
          (.ops [⟨some 7, none, .mv (.k (.int .i64 0))⟩])
          (.keep [1, 5, 7]
           (.block 2
            (.loop
             (.seq
              (.seq
               (.ops [⟨some 39, none, .mv (.t 7)⟩,
                 ⟨some 40, none, .fldA 1 (.t 1)⟩,
                 ⟨some 41, none, .load false 1 (.t 40)⟩,
                 ⟨some 42, none, .lenS (.t 41)⟩,
                 ⟨some 43, none, .bin .lss (.t 39) (.t 42)⟩])
               (.keep [1, 5, 7, 43]
                (.cond (.t 43)
                 .skip
                 (.exit 2))))
              (.keep [1, 5, 7]
               (.seq
                (.block 3
                 (.seq
                  (.ops [⟨some 8, none, .mv (.k (.int .i64 0))⟩])
                  (.keep [1, 5, 7, 8]
                   (.block 4
                    (.loop
                     (.seq
                      (.seq
                       (.ops [⟨some 46, none, .mv (.t 8)⟩,
                         ⟨some 47, none, .bin .lss (.t 46) (.k (.int .i64 2))⟩])
                       (.cond (.t 47)
                        .skip
                        (.exit 4)))
                      (.keep [1, 5, 7, 8]
                       (.seq
                        (.block 5
                         (.draw [0, 0, 2, 0, 0, 14, 62, 126, 254, 510, 0, 1024, 0, 0, 7168, 31744, 64512, 130048, 261120, 524286, 1048575, 2097151] [[5], [1], [51], [7], [8], [52, 53], [55, 54], [56], [57], [58], [1], [60], [7], [8], [61, 62], [64, 63], [65], [66], [67], [59, 68], [50, 69], [70]] [⟨some 50, none, .mv (.t 5)⟩,
                           ⟨some 51, none, .fldA 1 (.t 1)⟩,
                           ⟨some 52, none, .load false 1 (.t 51)⟩,
                           ⟨some 53, none, .mv (.t 7)⟩,
                           ⟨some 54, none, .mv (.t 8)⟩,
                           ⟨some 55, none, .idxS 2 (.t 52) (.t 53)⟩,
                           ⟨some 56, none, .idxA 2 1 (.t 55) (.t 54)⟩,
                           ⟨some 57, none, .load false 1 (.t 56)⟩,
                           ⟨some 58, none, .bin .rem (.t 57) (.k (.int .i64 256))⟩,
                           ⟨some 59, none, .conv .u8 (.t 58)⟩,
                           ⟨some 60, none, .fldA 1 (.t 1)⟩,
                           ⟨some 61, none, .load false 1 (.t 60)⟩,
                           ⟨some 62, none, .mv (.t 7)⟩,
                           ⟨some 63, none, .mv (.t 8)⟩,
                           ⟨some 64, none, .idxS 2 (.t 61) (.t 62)⟩,
                           ⟨some 65, none, .idxA 2 1 (.t 64) (.t 63)⟩,
                           ⟨some 66, none, .load false 1 (.t 65)⟩,
                           ⟨some 67, none, .bin .quo (.t 66) (.k (.int .i64 256))⟩,
                           ⟨some 68, none, .conv .u8 (.t 67)⟩,
                           ⟨some 69, none, .bslice 4 1 2 [.int .u8 0] [(0, .t 59), (1, .t 68)]⟩,
                           ⟨some 70, none, .app 4 1 (.t 50) (.t 69)⟩,
                           ⟨some 5, none, .mv (.t 70)⟩]))
                        (.keep [1, 5, 7, 8]
                         (.ops [⟨some 48, none, .mv (.t 8)⟩,
                           ⟨some 49, none, .bin .add (.t 48) (.k (.int .i64 1))⟩,
                           ⟨some 8, none, .mv (.t 49)⟩]))))))))))
                (.keep [1, 5, 7]
                 (.ops [⟨some 44, none, .mv (.t 7)⟩,
                   ⟨some 45, none, .bin .add (.t 44) (.k (.int .i64 1))⟩,
                   ⟨some 7, none, .mv (.t 45)⟩])))))))))
         (.keep [1, 5]
          (.seq
           (.seq
            (.ops [⟨some 9, none, .mv (.k (.int .i64 0))⟩])
            (.keep [1, 5, 9]
             (.block 6
              (.loop
               (.seq
                (.seq
                 (.ops [⟨some 71, none, .mv (.t 9)⟩,
                   ⟨some 72, none, .fldA 2 (.t 1)⟩,
                   ⟨some 73, none, .load false 1 (.t 72)⟩,
                   ⟨some 74, none, .lenS (.t 73)⟩,
                   ⟨some 75, none, .bin .lss (.t 71) (.t 74)⟩])
                 (.keep [1, 5, 9, 75]
                  (.cond (.t 75)
                   .skip
                   (.exit 6))))
                (.keep [1, 5, 9]
                 (.seq
                  (.block 7
                   (.seq
                    (.ops [⟨some 10, none, .mv (.k (.int .i64 0))⟩])
                    (.keep [1, 5, 9, 10]
                     (.block 8
                      (.loop
                       (.seq
                        (.seq
                         (.ops [⟨some 78, none, .mv (.t 10)⟩,
                           ⟨some 79, none, .bin .lss (.t 78) (.k (.int .i64 3))⟩])
                         (.cond (.t 79)
                          .skip
                          (.exit 8)))
                        (.keep [1, 5, 9, 10]
                         (.seq
                          (.block 9
                           (.ops [⟨some 82, none, .mv (.t 5)⟩,
                             ⟨some 83, none, .fldA 2 (.t 1)⟩,
                             ⟨some 84, none, .load false 1 (.t 83)⟩,
                             ⟨some 85, none, .mv (.t 9)⟩,
                             ⟨some 86, none, .mv (.t 10)⟩,
                             ⟨some 87, none, .idxS 3 (.t 84) (.t 85)⟩,
                             ⟨some 88, none, .idxA 3 1 (.t 87) (.t 86)⟩,
                             ⟨some 89, none, .load false 1 (.t 88)⟩,
                             ⟨some 90, none, .conv .u8 (.t 89)⟩,
                             ⟨some 91, none, .bslice 4 1 1 [.int .u8 0] [(0, .t 90)]⟩,
                             ⟨some 92, none, .app 4 1 (.t 82) (.t 91)⟩,
                             ⟨some 5, none, .mv (.t 92)⟩]))
                          (.keep [1, 5, 9, 10]
                           (.ops [⟨some 80, none, .mv (.t 10)⟩,
                             ⟨some 81, none, .bin .add (.t 80) (.k (.int .i64 1))⟩,
                             ⟨some 10, none, .mv (.t 81)⟩]))))))))))
                  (.keep [1, 5, 9]
                   (.ops [⟨some 76, none, .mv (.t 9)⟩,
                     ⟨some 77, none, .bin .add (.t 76) (.k (.int .i64 1))⟩,
                     ⟨some 9, none, .mv (.t 77)⟩])))))))))
           (.keep [5]
            (.seq
             (.ops [⟨some 93, none, .mv (.t 5)⟩,
               ⟨some 2, none, .mv (.t 93)⟩,
               ⟨some 3, none, .mv (.k (.int .i64 0))⟩])
             .ret)))))))))))) }
structure N197 (R : Env) : Prop where
  o197 : R.Fn 197 c197
  n198 : N198 R
  n212 : N212 R
def c216 : IFn := { np := 1, rs := [.cell 2 true 3], body :=
 (.seq
  (.ops [⟨some 2, none, .alloc 26 [.int .i64 0, .int .i64 0, .int .i64 0]⟩])
  (.seq
   (.ops [⟨some 6, none, .mv (.t 0)⟩,
     ⟨some 7, none, .call 77 [.t 6, .k (.int .i64 2)]⟩,
     ⟨some 3, none, .mv (.t 7)⟩])
   (.seq
    (.ops [⟨some 8, none, .mv (.t 0)⟩,
      ⟨some 9, none, .call 77 [.t 8, .k (.int .i64 2)]⟩,
      ⟨some 4, none, .mv (.t 9)⟩])
    (.seq
     (.ops [⟨some 10, none, .mv (.t 0)⟩,
       ⟨some 11, none, .call 77 [.t 10, .k (.int .i64 2)]⟩,
       ⟨some 5, none, .mv (.t 11)⟩])
     (.seq
      (.ops [⟨some 12, none, .mv (.t 3)⟩,
        ⟨some 13, none, .mv (.t 4)⟩,
        ⟨some 14, none, .mv (.t 5)⟩,
        ⟨some 15, none, .build [.int .i64 0, .int .i64 0, .int .i64 0] [(0, 1, .t 12), (1, 1, .t 13), (2, 1, .t 14)]⟩,
        ⟨none, none, .store 3 (.t 2) (.t 15)⟩])
      (.keep [2]
       .ret)))))) }
structure N216 (R : Env) : Prop where
  o216 : R.Fn 216 c216
  n77 : N77 R
def c203 : IFn := { np := 1, rs := [.cell 2 true 3, .t 3], body :=
 (.seq
  (.ops [⟨some 2, none, .alloc 25 [.nils, .nils, .nils]⟩,
    ⟨some 3, none, .mv (.k (.int .i64 0))⟩])
  (.seq
   (.ops [⟨some 18, none, .mv (.t 0)⟩,
     ⟨some 19, none, .build [.nils, .int .i64 0, .int .i64 0] [(0, 1, .t 18)]⟩,
     ⟨some 20, none, .box 8 (.t 19)⟩,
     ⟨some 4, none, .mv (.t 20)⟩])
   (.seq
    (.ops [⟨some 21, none, .mv (.t 4)⟩,
      ⟨some 22, none, .call 61 [.t 21, .k (.int .i64 1)]⟩,
      ⟨some 23, none, .conv .i64 (.t 22)⟩,
      ⟨some 5, none, .mv (.t 23)⟩])
    (.seq
     (.ops [⟨some 24, none, .mv (.t 4)⟩,
       ⟨some 25, none, .call 61 [.t 24, .k (.int .i64 1)]⟩,
       ⟨some 26, none, .conv .i64 (.t 25)⟩,
       ⟨some 6, none, .mv (.t 26)⟩])
     (.seq
      (.ops [⟨some 7, none, .alloc 25 [.nils, .nils, .nils]⟩])
      (.seq
       (.seq
        (.ops [⟨some 8, none, .mv (.k (.int .i64 0))⟩])
        (.keep [2, 4, 5, 6, 7, 8]
         (.block 0
          (.loop
           (.seq
            (.seq
             (.ops [⟨some 27, none, .mv (.t 8)⟩,
               ⟨some 28, none, .mv (.t 5)⟩,
               ⟨some 29, none, .bin .lss (.t 27) (.t 28)⟩])
             (.cond (.t 29)
              .skip
              (.exit 0)))
            (.keep [2, 4, 5, 6, 7, 8]
             (.seq
              (.block 1
               (.draw [0, 1, 0, 4, 12, 31, 63, 127] [[7], [32], [4], [34], [35], [33, 36], [7], [38, 37]] [⟨some 32, none, .fldA 0 (.t 7)⟩,
                 ⟨some 33, none, .load false 1 (.t 32)⟩,
                 ⟨some 34, none, .mv (.t 4)⟩,
                 ⟨some 35, none, .call 216 [.t 34]⟩,
                 ⟨some 36, none, .bslice 26 3 1 [.int .i64 0, .int .i64 0, .int .i64 0] [(0, .t 35)]⟩,
                 ⟨some 37, none, .app 26 3 (.t 33) (.t 36)⟩,
                 ⟨some 38, none, .fldA 0 (.t 7)⟩,
                 ⟨none, none, .store 1 (.t 38) (.t 37)⟩]))
              (.keep [2, 4, 5, 6, 7, 8]
               (.ops [⟨some 30, none, .mv (.t 8)⟩,
                 ⟨some 31, none, .bin .add (.t 30) (.k (.int .i64 1))⟩,
                 ⟨some 8, none, .mv (.t 31)⟩])))))))))
       (.keep [2, 4, 5, 6, 7]
        (.seq
         (.seq
          (.ops [⟨some 9, none, .mv (.k (.int .i64 0))⟩])
          (.keep [2, 4, 5, 6, 7, 9]
           (.block 2
            (.loop
             (.seq
              (.seq
               (.ops [⟨some 39, none, .mv (.t 9)⟩,
                 ⟨some 40, none, .mv (.t 5)⟩,
                 ⟨some 41, none, .bin .lss (.t 39) (.t 40)⟩])
               (.cond (.t 41)
                .skip
                (.exit 2)))
              (.keep [2, 4, 5, 6, 7, 9]
               (.seq
                (.block 3
                 (.seq
                  (.ops [⟨some 44, none, .mv (.t 4)⟩,
                    ⟨some 45, none, .call 61 [.t 44, .k (.int .i64 2)]⟩,
                    ⟨some 46, none, .conv .i64 (.t 45)⟩,
                    ⟨some 10, none, .mv (.t 46)⟩])
                  (.seq
                   (.ops [⟨some 47, none, .mv (.t 4)⟩,
                     ⟨some 48, none, .call 61 [.t 47, .k (.int .i64 2)]⟩,
                     ⟨some 49, none, .conv .i64 (.t 48)⟩,
                     ⟨some 11, none, .mv (.t 49)⟩])
                   (.ops [⟨some 50, none, .fldA 1 (.t 7)⟩,
                     ⟨some 51, none, .load false 1 (.t 50)⟩,
                     ⟨some 52, none, .mv (.t 10)⟩,
                     ⟨some 53, none, .mv (.t 11)⟩,
                     ⟨some 54, none, .build [.int .i64 0, .int .i64 0] [(0, 1, .t 52), (1, 1, .t 53)]⟩,
                     ⟨some 55, none, .bslice 18 2 1 [.int .i64 0, .int .i64 0] [(0, .t 54)]⟩,
                     ⟨some 56, none, .app 18 2 (.t 51) (.t 55)⟩,
                     ⟨some 57, none, .fldA 1 (.t 7)⟩,
                     ⟨none, none, .store 1 (.t 57) (.t 56)⟩]))))
                (.keep [2, 4, 5, 6, 7, 9]
                 (.ops [⟨some 42, none, .mv (.t 9)⟩,
                   ⟨some 43, none, .bin .add (.t 42) (.k (.int .i64 1))⟩,
                   ⟨some 9, none, .mv (.t 43)⟩])))))))))
         (.keep [2, 4, 6, 7]
          (.seq
           (.seq
            (.ops [⟨some 12, none, .mv (.k (.int .i64 0))⟩])
            (.keep [2, 4, 6, 7, 12]
             (.block 4
              (.loop
               (.seq
                (.seq
                 (.ops [⟨some 58, none, .mv (.t 12)⟩,
                   ⟨some 59, none, .mv (.t 6)⟩,
                   ⟨some 60, none, .bin .lss (.t 58) (.t 59)⟩])
                 (.cond (.t 60)
                  .skip
                  (.exit 4)))
                (.keep [2, 4, 6, 7, 12]
                 (.seq
                  (.block 5
                   (.seq
                    (.ops [⟨some 63, none, .mv (.t 4)⟩,
                      ⟨some 64, none, .call 61 [.t 63, .k (.int .i64 1)]⟩,
                      ⟨some 65, none, .conv .i64 (.t 64)⟩,
                      ⟨some 13, none, .mv (.t 65)⟩])
                    (.seq
                     (.ops [⟨some 66, none, .mv (.t 4)⟩,
                       ⟨some 67, none, .call 61 [.t 66, .k (.int .i64 1)]⟩,
                       ⟨some 68, none, .conv .i64 (.t 67)⟩,
                       ⟨some 14, none, .mv (.t 68)⟩])
                     (.seq
                      (.ops [⟨some 69, none, .mv (.t 4)⟩,
                        ⟨some 70, none, .call 61 [.t 69, .k (.int .i64 1)]⟩,
                        ⟨some 71, none, .conv .i64 (.t 70)⟩,
                        ⟨some 15, none, .mv (.t 71)⟩])
                      (.ops [⟨some 72, none, .fldA 2 (.t 7)⟩,
                        ⟨some 73, none, .load false 1 (.t 72)⟩,
                        ⟨some 74, none, .mv (.t 13)⟩,
                        ⟨some 75, none, .mv (.t 14)⟩,
                        ⟨some 76, none, .mv (.t 15)⟩,
                        ⟨some 77, none, .build [.int .i64 0, .int .i64 0, .int .i64 0] [(0, 1, .t 74), (1, 1, .t 75), (2, 1, .t 76)]⟩,
                        ⟨some 78, none, .bslice 13 3 1 [.int .i64 0, .int .i64 0, .int .i64 0] [(0, .t 77)]⟩,
                        ⟨some 79, none, .app 13 3 (.t 73) (.t 78)⟩,
                        ⟨some 80, none, .fldA 2 (.t 7)⟩,
                        ⟨none, none, .store 1 (.t 80) (.t 79)⟩])))))
                  (.keep [2, 4, 6, 7, 12]
                   (.ops [⟨some 61, none, .mv (.t 12)⟩,
                     ⟨some 62, none, .bin .add (.t 61) (.k (.int .i64 1))⟩,
                     ⟨some 12, none, .mv (.t 62)⟩])))))))))
           (.keep [2, 4, 7]
            (.seq
             (.seq
              (.ops [⟨some 81, none, .mv (.t 4)⟩,
                ⟨some 82, none, .call 69 [.t 81]⟩,
                ⟨some 16, none, .mv (.t 82)⟩])
              (.seq
               (.ops [⟨some 83, none, .mv (.t 16)⟩,
                 ⟨some 84, none, .bin .neq (.t 83) (.k (.int .i64 0))⟩])
               (.cond (.t 84)
                (.seq
                 (.ops [⟨some 85, none, .build [.nils, .nils, .nils] []⟩,
                   ⟨some 86, none, .mv (.t 16)⟩,
                   ⟨none, none, .store 3 (.t 2) (.t 85)⟩,
                   ⟨some 3, none, .mv (.t 86)⟩])
                 .ret)
                .skip)))
             (.keep [2, 7]
              (.seq
               (.seq
                (.ops [⟨some 87, none, .load true 3 (.t 7)⟩,
                  ⟨some 88, none, .call 198 [.t 87]⟩,
                  ⟨some 17, none, .mv (.t 88)⟩])
                (.seq
                 (.ops [⟨some 89, none, .mv (.t 17)⟩,
                   ⟨some 90, none, .bin .neq (.t 89) (.k (.int .i64 0))⟩])
                 (.cond (.t 90)
                  (.seq
                   (.ops [⟨some 91, none, .build [.nils, .nils, .nils] []⟩,
                     ⟨some 92, none, .mv (.t 17)⟩,
                     ⟨none, none, .store 3 (.t 2) (.t 91)⟩,
                     ⟨some 3, none, .mv (.t 92)⟩])
                   .ret)
                  .skip)))
               (.keep [2, 7]
                (.seq
                 (.ops [⟨some 93, none, .load true 3 (.t 7)⟩,
                   ⟨none, none, .store 3 (.t 2) (.t 93)⟩,
                   ⟨some 3, none, .mv (.k (.int .i64 0))⟩])
                 .ret)))))))))))))))) }
structure N203 (R : Env) : Prop where
  o203 : R.Fn 203 c203
  n61 : N61 R
  n69 : N69 R
  n198 : N198 R
  n216 : N216 R
def c204 : IFn := { np := 2, rs := [.t 4], body :=
 (.seq
  (.ops [⟨some 2, none, .box 25 (.t 0)⟩,
    ⟨some 3, none, .box 25 (.t 1)⟩,
    ⟨some 4, none, .mv (.k (.bool false))⟩])
  (.seq
   (.seq
    (.ops [⟨some 8, none, .fldA 0 (.t 2)⟩,
      ⟨some 9, none, .load false 1 (.t 8)⟩,
      ⟨some 10, none, .lenS (.t 9)⟩,
      ⟨some 11, none, .fldA 0 (.t 3)⟩,
      ⟨some 12, none, .load false 1 (.t 11)⟩,
      ⟨some 13, none, .lenS (.t 12)⟩,
      ⟨some 14, none, .bin .neq (.t 10) (.t 13)⟩,
      ⟨some 15, none, .mv (.t 14)⟩,
      ⟨some 16, some (15, false), .fldA 1 (.t 2)⟩,
      ⟨some 17, some (15, false), .load false 1 (.t 16)⟩,
      ⟨some 18, some (15, false), .lenS (.t 17)⟩,
      ⟨some 19, some (15, false), .fldA 1 (.t 3)⟩,
      ⟨some 20, some (15, false), .load false 1 (.t 19)⟩,
      ⟨some 21, some (15, false), .lenS (.t 20)⟩,
      ⟨some 22, some (15, false), .bin .neq (.t 18) (.t 21)⟩,
      ⟨some 23, none, .pick (.t 15) (.k (.bool true)) (.t 22)⟩,
      ⟨some 24, none, .mv (.t 23)⟩,
      ⟨some 25, some (24, false), .fldA 2 (.t 2)⟩,
      ⟨some 26, some (24, false), .load false 1 (.t 25)⟩,
      ⟨some 27, some (24, false), .lenS (.t 26)⟩,
      ⟨some 28, some (24, false), .fldA 2 (.t 3)⟩,
      ⟨some 29, some (24, false), .load false 1 (.t 28)⟩,
      ⟨some 30, some (24, false), .lenS (.t 29)⟩,
      ⟨some 31, some (24, false), .bin .neq (.t 27) (.t 30)⟩,
      ⟨some 32, none, .pick (.t 24) (.k (.bool true)) (.t 31)⟩])
    (.keep [2, 3, 32]
     (.cond (.t 32)
      (.seq
       (.ops [⟨some 4, none, .mv (.k (.bool false))⟩])
       .ret)
      .skip)))
   (.keep [2, 3]
    (.seq
     (.seq
      (.ops [⟨some 5, none, .mv (.k (.int .i64 0))⟩])
      (.keep [2, 3, 5]
       (.block 0
        (.loop
         (.seq
          (.seq
           (.ops [⟨some 33, none, .mv (.t 5)⟩,
             ⟨some 34, none, .fldA 0 (.t 2)⟩,
             ⟨some 35, none, .load false 1 (.t 34)⟩,
             ⟨some 36, none, .lenS (.t 35)⟩,
             ⟨some 37, none, .bin .lss (.t 33) (.t 36)⟩])
           (.keep [2, 3, 5, 37]
            (.cond (.t 37)
             .skip
             (.exit 0))))
          (.keep [2, 3, 5]
           (.seq
            (.block 1
             (.seq
              (.draw [0, 1, 0, 7, 15, 0, 32, 0, 224, 480, 1023] [[2], [40], [5], [41, 42], [43], [3], [45], [5], [46, 47], [48], [44, 49]] [⟨some 40, none, .fldA 0 (.t 2)⟩,
                ⟨some 41, none, .load false 1 (.t 40)⟩,
                ⟨some 42, none, .mv (.t 5)⟩,
                ⟨some 43, none, .idxS 3 (.t 41) (.t 42)⟩,
                ⟨some 44, none, .load true 3 (.t 43)⟩,
                ⟨some 45, none, .fldA 0 (.t 3)⟩,
                ⟨some 46, none, .load false 1 (.t 45)⟩,
                ⟨some 47, none, .mv (.t 5)⟩,
                ⟨some 48, none, .idxS 3 (.t 46) (.t 47)⟩,
                ⟨some 49, none, .load true 3 (.t 48)⟩,
                ⟨some 50, none, .eqa true [.i, .i, .i] (.t 44) (.t 49)⟩])
              (.keep [2, 3, 5, 50]
               (.cond (.t 50)
                (.seq
                 (.ops [⟨some 4, none, .mv (.k (.bool false))⟩])
                 .ret)
                .skip))))
            (.keep [2, 3, 5]
             (.ops [⟨some 38, none, .mv (.t 5)⟩,
               ⟨some 39, none, .bin .add (.t 38) (.k (.int .i64 1))⟩,
               ⟨some 5, none, .mv (.t 39)⟩])))))))))
     (.keep [2, 3]
      (.seq
       (.seq
        (.ops [⟨some 6, none, .mv (.k (.int .i64 0))⟩])
        (.keep [2, 3, 6]
         (.block 2
          (.loop
           (.seq
            (.seq
             (.ops [⟨some 51, none, .mv (.t 6)⟩,
               ⟨some 52, none, .fldA 1 (.t 2)⟩,
               ⟨some 53, none, .load false 1 (.t 52)⟩,
               ⟨some 54, none, .lenS (.t 53)⟩,
               ⟨some 55, none, .bin .lss (.t 51) (.t 54)⟩])
             (.keep [2, 3, 6, 55]
              (.cond (.t 55)
               .skip
               (.exit 2))))
            (.keep [2, 3, 6]
             (.seq
              (.block 3
               (.seq
                (.draw [0, 1, 0, 7, 15, 0, 32, 0, 224, 480, 1023] [[2], [58], [6], [59, 60], [61], [3], [63], [6], [64, 65], [66], [62, 67]] [⟨some 58, none, .fldA 1 (.t 2)⟩,
                  ⟨some 59, none, .load false 1 (.t 58)⟩,
                  ⟨some 60, none, .mv (.t 6)⟩,
                  ⟨some 61, none, .idxS 2 (.t 59) (.t 60)⟩,
                  ⟨some 62, none, .load true 2 (.t 61)⟩,
                  ⟨some 63, none, .fldA 1 (.t 3)⟩,
                  ⟨some 64, none, .load false 1 (.t 63)⟩,
                  ⟨some 65, none, .mv (.t 6)⟩,
                  ⟨some 66, none, .idxS 2 (.t 64) (.t 65)⟩,
                  ⟨some 67, none, .load true 2 (.t 66)⟩,
                  ⟨some 68, none, .eqa true [.i, .i] (.t 62) (.t 67)⟩])
                (.keep [2, 3, 6, 68]
                 (.cond (.t 68)
                  (.seq
                   (.ops [⟨some 4, none, .mv (.k (.bool false))⟩])
                   .ret)
                  .skip))))
              (.keep [2, 3, 6]
               (.ops [⟨some 56, none, .mv (.t 6)⟩,
                 ⟨some 57, none, .bin .add (.t 56) (.k (.int .i64 1))⟩,
                 ⟨some 6, none, .mv (.t 57)⟩])))))))))
       (.keep [2, 3]
        (.seq
         (.seq
          (.ops [⟨some 7, none, .mv (.k (.int .i64 0))⟩])
          (.keep [2, 3, 7]
           (.block 4
            (.loop
             (.seq
              (.seq
               (.ops [⟨some 69, none, .mv (.t 7)⟩,
                 ⟨some 70, none, .fldA 2 (.t 2)⟩,
                 ⟨some 71, none, .load false 1 (.t 70)⟩,
                 ⟨some 72, none, .lenS (.t 71)⟩,
                 ⟨some 73, none, .bin .lss (.t 69) (.t 72)⟩])
               (.keep [2, 3, 7, 73]
                (.cond (.t 73)
                 .skip
                 (.exit 4))))
              (.keep [2, 3, 7]
               (.seq
                (.block 5
                 (.seq
                  (.draw [0, 1, 0, 7, 15, 0, 32, 0, 224, 480, 1023] [[2], [76], [7], [77, 78], [79], [3], [81], [7], [82, 83], [84], [80, 85]] [⟨some 76, none, .fldA 2 (.t 2)⟩,
                    ⟨some 77, none, .load false 1 (.t 76)⟩,
                    ⟨some 78, none, .mv (.t 7)⟩,
                    ⟨some 79, none, .idxS 3 (.t 77) (.t 78)⟩,
                    ⟨some 80, none, .load true 3 (.t 79)⟩,
                    ⟨some 81, none, .fldA 2 (.t 3)⟩,
                    ⟨some 82, none, .load false 1 (.t 81)⟩,
                    ⟨some 83, none, .mv (.t 7)⟩,
                    ⟨some 84, none, .idxS 3 (.t 82) (.t 83)⟩,
                    ⟨some 85, none, .load true 3 (.t 84)⟩,
                    ⟨some 86, none, .eqa true [.i, .i, .i] (.t 80) (.t 85)⟩])
                  (.keep [2, 3, 7, 86]
                   (.cond (.t 86)
                    (.seq
                     (.ops [⟨some 4, none, .mv (.k (.bool false))⟩])
                     .ret)
                    .skip))))
                (.keep [2, 3, 7]
                 (.ops [⟨some 74, none, .mv (.t 7)⟩,
                   ⟨some 75, none, .bin .add (.t 74) (.k (.int .i64 1))⟩,
                   ⟨some 7, none, .mv (.t 75)⟩])))))))))
         (.keep []
          (.seq
           (.ops [⟨some 4, none, .mv (.k (.bool true))⟩])
           .ret)))))))))) }
structure N204 (R : Env) : Prop where
  o204 : R.Fn 204 c204
end Go.UM

namespace Go.UM
open Go.AM
def c85 : IFn := { np := 1, rs := [.t 2], body :=
 (.seq
  (.ops [⟨some 1, none, .box 12 (.t 0)⟩,
    ⟨some 2, none, .mv (.k (.int .i64 0))⟩])
  (.seq
   (.seq
    (.ops [⟨some 5, none, .fldA 0 (.t 1)⟩,
      ⟨some 6, none, .load false 1 (.t 5)⟩,
      ⟨some 7, none, .bin .neq (.t 6) (.k (.int .i64 1))⟩,
      ⟨some 8, none, .mv (.t 7)⟩,
      ⟨some 9, some (8, true), .fldA 0 (.t 1)⟩,
      ⟨some 10, some (8, true), .load false 1 (.t 9)⟩,
      ⟨some 11, some (8, true), .bin .neq (.t 10) (.k (.int .i64 2))⟩,
      ⟨some 12, none, .pick (.t 8) (.t 11) (.k (.bool false))⟩,
      ⟨some 13, none, .mv (.t 12)⟩,
      ⟨some 14, some (13, true), .fldA 0 (.t 1)⟩,
      ⟨some 15, some (13, true), .load false 1 (.t 14)⟩,
      ⟨some 16, some (13, true), .bin .neq (.t 15) (.k (.int .i64 4))⟩,
      ⟨some 17, none, .pick (.t 13) (.t 16) (.k (.bool false))⟩,
      ⟨some 18, none, .mv (.t 17)⟩,
      ⟨some 19, some (18, true), .fldA 0 (.t 1)⟩,
      ⟨some 20, some (18, true), .load false 1 (.t 19)⟩,
      ⟨some 21, some (18, true), .bin .neq (.t 20) (.k (.int .i64 8))⟩,
      ⟨some 22, none, .pick (.t 18) (.t 21) (.k (.bool false))⟩,
      ⟨some 23, none, .mv (.t 22)⟩,
      ⟨some 24, some (23, true), .fldA 0 (.t 1)⟩,
      ⟨some 25, some (23, true), .load false 1 (.t 24)⟩,
      ⟨some 26, some (23, true), .bin .neq (.t 25) (.k (.int .i64 16))⟩,
      ⟨some 27, none, .pick (.t 23) (.t 26) (.k (.bool false))⟩,
      ⟨some 28, none, .mv (.t 27)⟩,
      ⟨some 29, some (28, false), .fldA 1 (.t 1)⟩,
      ⟨some 30, some (28, false), .load false 1 (.t 29)⟩,
      ⟨some 31, some (28, false), .lenS (.t 30)⟩,
      ⟨some 32, some (28, false), .fldA 0 (.t 1)⟩,
      ⟨some 33, some (28, false), .load false 1 (.t 32)⟩,
      ⟨some 34, some (28, false), .fldA 0 (.t 1)⟩,
      ⟨some 35, some (28, false), .load false 1 (.t 34)⟩,
      ⟨some 36, some (28, false), .bin .mul (.t 33) (.t 35)⟩,
      ⟨some 37, some (28, false), .bin .neq (.t 31) (.t 36)⟩,
      ⟨some 38, none, .pick (.t 28) (.k (.bool true)) (.t 37)⟩])
    (.keep [1, 38]
     (.cond (.t 38)
      (.seq
       (.ops [⟨some 2, none, .mv (.k (.int .i64 5))⟩])
       .ret)
      .skip)))
   (.keep [1]
    (.seq
     (.seq
      (.ops [⟨some 3, none, .mv (.k (.int .i64 0))⟩])
      (.keep [1, 3]
       (.block 0
        (.loop
         (.seq
          (.seq
           (.ops [⟨some 39, none, .mv (.t 3)⟩,
             ⟨some 40, none, .fldA 1 (.t 1)⟩,
             ⟨some 41, none, .load false 1 (.t 40)⟩,
             ⟨some 42, none, .lenS (.t 41)⟩,
             ⟨some 43, none, .bin .lss (.t 39) (.t 42)⟩])
           (.keep [1, 3, 43]
            (.cond (.t 43)
             .skip
             (.exit 0))))
          (.keep [1, 3]
           (.seq
            (.block 1
             (.seq
              (.ops [⟨some 4, none, .mv (.k (.int .i64 0))⟩])
              (.keep [1, 3, 4]
               (.block 2
                (.loop
                 (.seq
                  (.seq
                   (.ops [⟨some 46, none, .mv (.t 4)⟩,
                     ⟨some 47, none, .bin .lss (.t 46) (.k (.int .i64 3))⟩])
                   (.cond (.t 47)
                    .skip
                    (.exit 2)))
                  (.keep [1, 3, 4]
                   (.seq
                    (.block 3
                     (.seq
                      (.ops [⟨some 50, none, .fldA 1 (.t 1)⟩,
                        ⟨some 51, none, .load false 1 (.t 50)⟩,
                        ⟨some 52, none, .mv (.t 3)⟩,
                        ⟨some 53, none, .mv (.t 4)⟩,
                        ⟨some 54, none, .idxS 3 (.t 51) (.t 52)⟩,
                        ⟨some 55, none, .idxA 3 1 (.t 54) (.t 53)⟩,
                        ⟨some 56, none, .load false 1 (.t 55)⟩,
                        ⟨some 57, none, .bin .lss (.t 56) (.k (.int .i64 0))⟩,
                        ⟨some 58, none, .mv (.t 57)⟩,
                        ⟨some 59, some (58, false), .fldA 1 (.t 1)⟩,
                        ⟨some 60, some (58, false), .load false 1 (.t 59)⟩,
                        ⟨some 61, some (58, false), .mv (.t 3)⟩,
                        ⟨some 62, some (58, false), .mv (.t 4)⟩,
                        ⟨some 63, some (58, false), .idxS 3 (.t 60) (.t 61)⟩,
                        ⟨some 64, some (58, false), .idxA 3 1 (.t 63) (.t 62)⟩,
                        ⟨some 65, some (58, false), .load false 1 (.t 64)⟩,
                        ⟨some 66, some (58, false), .bin .gtr (.t 65) (.k (.int .i64 255))⟩,
                        ⟨some 67, none, .pick (.t 58) (.k (.bool true)) (.t 66)⟩])
                      (.keep [1, 3, 4, 67]
                       (.cond (.t 67)
                        (.seq
                         (.ops [⟨some 2, none, .mv (.k (.int .i64 5))⟩])
                         .ret)
                        .skip))))
                    (.keep [1, 3, 4]
                     (.ops [⟨some 48, none, .mv (.t 4)⟩,
                       ⟨some 49, none, .bin .add (.t 48) (.k (.int .i64 1))⟩,
                       ⟨some 4, none, .mv (.t 49)⟩]))))))))))
            (.keep [1, 3]
             (.ops [⟨some 44, none, .mv (.t 3)⟩,
               ⟨some 45, none, .bin .add (.t 44) (.k (.int .i64 1))⟩,
               ⟨some 3, none, .mv (.t 45)⟩])))))))))
     (.keep []
      (.seq
       (.ops [⟨some 2, none, .mv (.k (.int .i64 0))⟩])
       .ret)))))) }
structure N85 (R : Env) : Prop where
  o85 : R.Fn 85 c85
def c83 : IFn := { np := 1, rs := [.t 2, .t 3], body :=
 (.seq
  (.ops [⟨some 1, none, .box 12 (.t 0)⟩,
    ⟨some 2, none, .mv (.k (.nils))⟩,
    ⟨some 3, none, .mv (.k (.int .i64 0))⟩])
  (.seq
   (.seq
    (.ops [⟨some 8, none, .load true 2 (.t 1)⟩,
      ⟨some 9, none, .call 85 [.t 8]⟩,
      ⟨some 4, none, .mv (.t 9)⟩])
    (.seq
     (.ops [⟨some 10, none, .mv (.t 4)⟩,
       ⟨some 11, none, .bin .neq (.t 10) (.k (.int .i64 0))⟩])
     (.cond (.t 11)
      (.seq
       (.ops [⟨some 12, none, .mv (.t 4)⟩,
         ⟨some 2, none, .mv (.k (.nils))⟩,
         ⟨some 3, none, .mv (.t 12)⟩])
       .ret)
      .skip)))
   (.keep [1]
    (.seq
     (.ops [⟨some 13, none, .fldA 0 (.t 1)⟩,
       ⟨some 14, none, .load false 1 (.t 13)⟩,
       ⟨some 15, none, .conv .u8 (.t 14)⟩,
       ⟨some 16, none, .bslice 4 1 1 [.int .u8 0] [(0, .t 15)]⟩,
       ⟨some 5, none, .mv (.t 16)⟩])
     (.keep [1, 5]
      (.seq
       (.seq
        (.ops [⟨some 6, none, .mv (.k (.int .i64 0))⟩])
        (.keep [1, 5, 6]
         (.block 0
          (.loop
           (.seq
            (.seq
             (.ops [⟨some 17, none, .mv (.t 6)⟩,
               ⟨some 18, none, .fldA 1 (.t 1)⟩,
               ⟨some 19, none, .load false 1 (.t 18)⟩,
               ⟨some 20, none, .lenS (.t 19)⟩,
               ⟨some 21, none, .bin .lss (.t 17) (.t 20)⟩])
             (.keep [1, 5, 6, 21]
              (.cond (.t 21)
               .skip
               (.exit 0))))
            (.keep [1, 5, 6]
             (.seq
              (.block 1
               (.seq
                (.ops [⟨some 7, none, .mv (.k (.int .i64 0))⟩])
                (.keep [1, 5, 6, 7]
                 (.block 2
                  (.loop
                   (.seq
                    (.seq
                     (.ops [⟨some 24, none, .mv (.t 7)⟩,
                       ⟨some 25, none, .bin .lss (.t 24) (.k (.int .i64 3))⟩])
                     (.cond (.t 25)
                      .skip
                      (.exit 2)))
                    (.keep [1, 5, 6, 7]
                     (.seq
                      (.block 3
                       (.ops [⟨some 28, none, .mv (.t 5)⟩,
                         ⟨some 29, none, .fldA 1 (.t 1)⟩,
                         ⟨some 30, none, .load false 1 (.t 29)⟩,
                         ⟨some 31, none, .mv (.t 6)⟩,
                         ⟨some 32, none, .mv (.t 7)⟩,
                         ⟨some 33, none, .idxS 3 (.t 30) (.t 31)⟩,
                         ⟨some 34, none, .idxA 3 1 (.t 33) (.t 32)⟩,
                         ⟨some 35, none, .load false 1 (.t 34)⟩,
                         ⟨some 36, none, .conv .u8 (.t 35)⟩,
                         ⟨some 37, none, .bslice 4 1 1 [.int .u8 0] [(0, .t 36)]⟩,
                         ⟨some 38, none, .app 4 1 (.t 28) (.t 37)⟩,
                         ⟨some 5, none, .mv (.t 38)⟩]))
                      (.keep [1, 5, 6, 7]
                       (.ops [⟨some 26, none, .mv (.t 7)⟩,
                         ⟨some 27, none, .bin .add (.t 26) (.k (.int .i64 1))⟩,
                         ⟨some 7, none, .mv (.t 27)⟩]))))))))))
              (.keep [1, 5, 6]
               (.ops [⟨some 22, none, .mv (.t 6)⟩,
                 ⟨some 23, none, .bin .add (.t 22) (.k (.int .i64 1))⟩,
                 ⟨some 6, none, .mv (.t 23)⟩])))))))))
       (.keep [5]
        (.seq
         (.ops [⟨some 39, none, .mv (.t 5)⟩,
           ⟨some 2, none, .mv (.t 39)⟩,
           ⟨some 3, none, .mv (.k (.int .i64 0))⟩])
         .ret)))))))) }
structure N83 (R : Env) : Prop where
  o83 : R.Fn 83 c83
  n85 : N85 R
def c89 : IFn := { np := 2, rs := [.t 4], body :=
 (.seq
  (.ops [⟨some 2, none, .box 12 (.t 0)⟩,
    ⟨some 3, none, .box 12 (.t 1)⟩,
    ⟨some 4, none, .mv (.k (.bool false))⟩])
  (.seq
   (.seq
    (.ops [⟨some 6, none, .fldA 0 (.t 2)⟩,
      ⟨some 7, none, .load false 1 (.t 6)⟩,
      ⟨some 8, none, .fldA 0 (.t 3)⟩,
      ⟨some 9, none, .load false 1 (.t 8)⟩,
      ⟨some 10, none, .bin .neq (.t 7) (.t 9)⟩,
      ⟨some 11, none, .mv (.t 10)⟩,
      ⟨some 12, some (11, false), .fldA 1 (.t 2)⟩,
      ⟨some 13, some (11, false), .load false 1 (.t 12)⟩,
      ⟨some 14, some (11, false), .lenS (.t 13)⟩,
      ⟨some 15, some (11, false), .fldA 1 (.t 3)⟩,
      ⟨some 16, some (11, false), .load false 1 (.t 15)⟩,
      ⟨some 17, some (11, false), .lenS (.t 16)⟩,
      ⟨some 18, some (11, false), .bin .neq (.t 14) (.t 17)⟩,
      ⟨some 19, none, .pick (.t 11) (.k (.bool true)) (.t 18)⟩])
    (.keep [2, 3, 19]
     (.cond (.t 19)
      (.seq
       (.ops [⟨some 4, none, .mv (.k (.bool false))⟩])
       .ret)
      .skip)))
   (.keep [2, 3]
    (.seq
     (.seq
      (.ops [⟨some 5, none, .mv (.k (.int .i64 0))⟩])
      (.keep [2, 3, 5]
       (.block 0
        (.loop
         (.seq
          (.seq
           (.ops [⟨some 20, none, .mv (.t 5)⟩,
             ⟨some 21, none, .fldA 1 (.t 2)⟩,
             ⟨some 22, none, .load false 1 (.t 21)⟩,
             ⟨some 23, none, .lenS (.t 22)⟩,
             ⟨some 24, none, .bin .lss (.t 20) (.t 23)⟩])
           (.keep [2, 3, 5, 24]
            (.cond (.t 24)
             .skip
             (.exit 0))))
          (.keep [2, 3, 5]
           (.seq
            (.block 1
             (.seq
              (.draw [0, 1, 0, 7, 15, 0, 32, 0, 224, 480, 1023] [[2], [27], [5], [28, 29], [30], [3], [32], [5], [33, 34], [35], [31, 36]] [⟨some 27, none, .fldA 1 (.t 2)⟩,
                ⟨some 28, none, .load false 1 (.t 27)⟩,
                ⟨some 29, none, .mv (.t 5)⟩,
                ⟨some 30, none, .idxS 3 (.t 28) (.t 29)⟩,
                ⟨some 31, none, .load true 3 (.t 30)⟩,
                ⟨some 32, none, .fldA 1 (.t 3)⟩,
                ⟨some 33, none, .load false 1 (.t 32)⟩,
                ⟨some 34, none, .mv (.t 5)⟩,
                ⟨some 35, none, .idxS 3 (.t 33) (.t 34)⟩,
                ⟨some 36, none, .load true 3 (.t 35)⟩,
                ⟨some 37, none, .eqa true [.i, .i, .i] (.t 31) (.t 36)⟩])
              (.keep [2, 3, 5, 37]
               (.cond (.t 37)
                (.seq
                 (.ops [⟨some 4, none, .mv (.k (.bool false))⟩])
                 .ret)
                .skip))))
            (.keep [2, 3, 5]
             (.ops [⟨some 25, none, .mv (.t 5)⟩,
               ⟨some 26, none, .bin .add (.t 25) (.k (.int .i64 1))⟩,
               ⟨some 5, none, .mv (.t 26)⟩])))))))))
     (.keep []
      (.seq
       (.ops [⟨some 4, none, .mv (.k (.bool true))⟩])
       .ret)))))) }
structure N89 (R : Env) : Prop where
  o89 : R.Fn 89 c89
def c105 : IFn := { np := 2, rs := [.t 4], body :=
 (.seq
  (.ops [⟨some 4, none, .mv (.k (.int .i64 0))⟩])
  (.seq
   (.ops [⟨some 5, none, .mv (.t 0)⟩,
     ⟨some 6, none, .mv (.t 1)⟩,
     ⟨some 7, none, .bin .rem (.t 5) (.t 6)⟩,
     ⟨some 0, none, .mv (.t 7)⟩])
   (.seq
    (.seq
     (.ops [⟨some 8, none, .mv (.t 0)⟩,
       ⟨some 9, none, .bin .lss (.t 8) (.k (.int .i64 0))⟩])
     (.cond (.t 9)
      (.ops [⟨some 10, none, .mv (.t 0)⟩,
        ⟨some 11, none, .mv (.t 1)⟩,
        ⟨some 12, none, .bin .add (.t 10) (.t 11)⟩,
        ⟨some 0, none, .mv (.t 12)⟩])
      .skip))
    (.keep [0]
     (.seq
      (.ops [⟨some 13, none, .mv (.t 0)⟩,
        ⟨some 4, none, .mv (.t 13)⟩])
      .ret))))) }
structure N105 (R : Env) : Prop where
  o105 : R.Fn 105 c105
def c95 : IFn := { np := 3, rs := [.cell 6 true 3], body :=
 (.seq
  (.ops [⟨some 3, none, .box 12 (.t 0)⟩,
    ⟨some 6, none, .alloc 13 [.int .i64 0, .int .i64 0, .int .i64 0]⟩])
  (.seq
   (.draw [0, 1, 0, 0, 8, 28, 0, 64, 252, 0, 0, 1024, 3644, 8188, 16383, 32767, 65535] [[3], [7], [2], [3], [10], [9, 11], [3], [13], [12, 14], [1], [3], [17], [16, 18], [15, 19], [8, 20], [21], [6, 22]] [⟨some 7, none, .fldA 1 (.t 3)⟩,
     ⟨some 8, none, .load false 1 (.t 7)⟩,
     ⟨some 9, none, .mv (.t 2)⟩,
     ⟨some 10, none, .fldA 0 (.t 3)⟩,
     ⟨some 11, none, .load false 1 (.t 10)⟩,
     ⟨some 12, none, .call 105 [.t 9, .t 11]⟩,
     ⟨some 13, none, .fldA 0 (.t 3)⟩,
     ⟨some 14, none, .load false 1 (.t 13)⟩,
     ⟨some 15, none, .bin .mul (.t 12) (.t 14)⟩,
     ⟨some 16, none, .mv (.t 1)⟩,
     ⟨some 17, none, .fldA 0 (.t 3)⟩,
     ⟨some 18, none, .load false 1 (.t 17)⟩,
     ⟨some 19, none, .call 105 [.t 16, .t 18]⟩,
     ⟨some 20, none, .bin .add (.t 15) (.t 19)⟩,
     ⟨some 21, none, .idxS 3 (.t 8) (.t 20)⟩,
     ⟨some 22, none, .load true 3 (.t 21)⟩,
     ⟨none, none, .store 3 (.t 6) (.t 22)⟩])
   (.keep [6]
    .ret))) }
structure N95 (R : Env) : Prop where
  o95 : R.Fn 95 c95
  n105 : N105 R
def c92 : IFn := { np := 1, rs := [.cell 2 true 2, .t 3], body :=
 (.seq
  (.ops [⟨some 1, none, .box 12 (.t 0)⟩,
    ⟨some 2, none, .alloc 12 [.int .i64 0, .nils]⟩,
    ⟨some 3, none, .mv (.k (.int .i64 0))⟩])
  (.seq
   (.seq
    (.ops [⟨some 13, none, .load true 2 (.t 1)⟩,
      ⟨some 14, none, .call 85 [.t 13]⟩,
      ⟨some 4, none, .mv (.t 14)⟩])
    (.seq
     (.ops [⟨some 15, none, .mv (.t 4)⟩,
       ⟨some 16, none, .bin .neq (.t 15) (.k (.int .i64 0))⟩])
     (.cond (.t 16)
      (.seq
       (.ops [⟨some 17, none, .build [.int .i64 0, .nils] []⟩,
         ⟨some 18, none, .mv (.t 4)⟩,
         ⟨none, none, .store 2 (.t 2) (.t 17)⟩,
         ⟨some 3, none, .mv (.t 18)⟩])
       .ret)
      .skip)))
   (.keep [1, 2]
    (.seq
     (.seq
      (.ops [⟨some 19, none, .fldA 0 (.t 1)⟩,
        ⟨some 20, none, .load false 1 (.t 19)⟩,
        ⟨some 21, none, .bin .eql (.t 20) (.k (.int .i64 1))⟩])
      (.cond (.t 21)
       (.seq
        (.ops [⟨some 22, none, .build [.int .i64 0, .nils] []⟩,
          ⟨none, none, .store 2 (.t 2) (.t 22)⟩,
          ⟨some 3, none, .mv (.k (.int .i64 2))⟩])
        .ret)
       .skip))
     (.keep [1, 2]
      (.seq
       (.ops [⟨some 23, none, .fldA 0 (.t 1)⟩,
         ⟨some 24, none, .load false 1 (.t 23)⟩,
         ⟨some 25, none, .bin .quo (.t 24) (.k (.int .i64 2))⟩,
         ⟨some 26, none, .build [.int .i64 0, .nils] [(0, 1, .t 25)]⟩,
         ⟨some 5, none, .alloc 12 [.int .i64 0, .nils]⟩,
         ⟨none, none, .store 2 (.t 5) (.t 26)⟩])
       (.keep [1, 2, 5]
        (.seq
         (.seq
          (.ops [⟨some 6, none, .mv (.k (.int .i64 0))⟩])
          (.keep [1, 2, 5, 6]
           (.block 0
            (.loop
             (.seq
              (.seq
               (.ops [⟨some 27, none, .mv (.t 6)⟩,
                 ⟨some 28, none, .fldA 0 (.t 5)⟩,
                 ⟨some 29, none, .load false 1 (.t 28)⟩,
                 ⟨some 30, none, .bin .lss (.t 27) (.t 29)⟩])
               (.cond (.t 30)
                .skip
                (.exit 0)))
              (.keep [1, 2, 5, 6]
               (.seq
                (.block 1
                 (.seq
                  (.ops [⟨some 7, none, .mv (.k (.int .i64 0))⟩])
                  (.keep [1, 2, 5, 6, 7]
                   (.block 2
                    (.loop
                     (.seq
                      (.seq
                       (.ops [⟨some 33, none, .mv (.t 7)⟩,
                         ⟨some 34, none, .fldA 0 (.t 5)⟩,
                         ⟨some 35, none, .load false 1 (.t 34)⟩,
                         ⟨some 36, none, .bin .lss (.t 33) (.t 35)⟩])
                       (.cond (.t 36)
                        .skip
                        (.exit 2)))
                      (.keep [1, 2, 5, 6, 7]
                       (.seq
                        (.block 3
                         (.seq
                          (.ops [⟨some 8, none, .alloc 13 [.int .i64 0, .int .i64 0, .int .i64 0]⟩])
                          (.seq
                           (.seq
                            (.ops [⟨some 9, none, .mv (.k (.int .i64 0))⟩])
                            (.keep [1, 2, 5, 6, 7, 8, 9]
                             (.block 4
                              (.loop
                               (.seq
                                (.seq
                                 (.ops [⟨some 39, none, .mv (.t 9)⟩,
                                   ⟨some 40, none, .bin .lss (.t 39) (.k (.int .i64 4))⟩])
                                 (.cond (.t 40)
                                  .skip
                                  (.exit 4)))
                                (.keep [1, 2, 5, 6, 7, 8, 9]
                                 (.seq
                                  (.block 5
                                   (.seq
                                    (.ops [⟨some 43, none, .load true 2 (.t 1)⟩,
                                      ⟨some 44, none, .mv (.t 7)⟩,
                                      ⟨some 45, none, .bin .mul (.k (.int .i64 2)) (.t 44)⟩,
                                      ⟨some 46, none, .mv (.t 9)⟩,
                                      ⟨some 47, none, .bin .rem (.t 46) (.k (.int .i64 2))⟩,
                                      ⟨some 48, none, .bin .add (.t 45) (.t 47)⟩,
                                      ⟨some 49, none, .mv (.t 6)⟩,
                                      ⟨some 50, none, .bin .mul (.k (.int .i64 2)) (.t 49)⟩,
                                      ⟨some 51, none, .mv (.t 9)⟩,
                                      ⟨some 52, none, .bin .quo (.t 51) (.k (.int .i64 2))⟩,
                                      ⟨some 53, none, .bin .add (.t 50) (.t 52)⟩,
                                      ⟨some 54, none, .call 95 [.t 43, .t 48, .t 53]⟩,
                                      ⟨some 10, none, .alloc 13 [.int .i64 0, .int .i64 0, .int .i64 0]⟩,
                                      ⟨none, none, .store 3 (.t 10) (.t 54)⟩])
                                    (.keep [1, 2, 5, 6, 7, 8, 9, 10]
                                     (.seq
                                      (.ops [⟨some 11, none, .mv (.k (.int .i64 0))⟩])
                                      (.keep [1, 2, 5, 6, 7, 8, 9, 10, 11]
                                       (.block 6
                                        (.loop
                                         (.seq
                                          (.seq
                                           (.ops [⟨some 55, none, .mv (.t 11)⟩,
                                             ⟨some 56, none, .bin .lss (.t 55) (.k (.int .i64 3))⟩])
                                           (.cond (.t 56)
                                            .skip
                                            (.exit 6)))
                                          (.keep [1, 2, 5, 6, 7, 8, 9, 10, 11]
                                           (.seq
                                            (.block 7
                                             (.draw [0, 0, 2, 6, 0, 16, 48, 126, 255, 511] [[11], [11], [8, 60], [61], [11], [10, 63], [64], [62, 65], [8, 59], [67, 66]] [⟨some 59, none, .mv (.t 11)⟩,
                                               ⟨some 60, none, .mv (.t 11)⟩,
                                               ⟨some 61, none, .idxA 3 1 (.t 8) (.t 60)⟩,
                                               ⟨some 62, none, .load false 1 (.t 61)⟩,
                                               ⟨some 63, none, .mv (.t 11)⟩,
                                               ⟨some 64, none, .idxA 3 1 (.t 10) (.t 63)⟩,
                                               ⟨some 65, none, .load false 1 (.t 64)⟩,
                                               ⟨some 66, none, .bin .add (.t 62) (.t 65)⟩,
                                               ⟨some 67, none, .idxA 3 1 (.t 8) (.t 59)⟩,
                                               ⟨none, none, .store 1 (.t 67) (.t 66)⟩]))
                                            (.keep [1, 2, 5, 6, 7, 8, 9, 10, 11]
                                             (.ops [⟨some 57, none, .mv (.t 11)⟩,
                                               ⟨some 58, none, .bin .add (.t 57) (.k (.int .i64 1))⟩,
                                               ⟨some 11, none, .mv (.t 58)⟩]))))))))))))
                                  (.keep [1, 2, 5, 6, 7, 8, 9]
                                   (.ops [⟨some 41, none, .mv (.t 9)⟩,
                                     ⟨some 42, none, .bin .add (.t 41) (.k (.int .i64 1))⟩,
                                     ⟨some 9, none, .mv (.t 42)⟩])))))))))
                           (.keep [1, 2, 5, 6, 7, 8]
                            (.seq
                             (.seq
                              (.ops [⟨some 12, none, .mv (.k (.int .i64 0))⟩])
                              (.keep [1, 2, 5, 6, 7, 8, 12]
                               (.block 8
                                (.loop
                                 (.seq
                                  (.seq
                                   (.ops [⟨some 68, none, .mv (.t 12)⟩,
                                     ⟨some 69, none, .bin .lss (.t 68) (.k (.int .i64 3))⟩])
                                   (.cond (.t 69)
                                    .skip
                                    (.exit 8)))
                                  (.keep [1, 2, 5, 6, 7, 8, 12]
                                   (.seq
                                    (.block 9
                                     (.ops [⟨some 72, none, .mv (.t 12)⟩,
                                       ⟨some 73, none, .mv (.t 12)⟩,
                                       ⟨some 74, none, .idxA 3 1 (.t 8) (.t 73)⟩,
                                       ⟨some 75, none, .load false 1 (.t 74)⟩,
                                       ⟨some 76, none, .bin .add (.t 75) (.k (.int .i64 2))⟩,
                                       ⟨some 77, none, .bin .quo (.t 76) (.k (.int .i64 4))⟩,
                                       ⟨some 78, none, .idxA 3 1 (.t 8) (.t 72)⟩,
                                       ⟨none, none, .store 1 (.t 78) (.t 77)⟩]))
                                    (.keep [1, 2, 5, 6, 7, 8, 12]
                                     (.ops [⟨some 70, none, .mv (.t 12)⟩,
                                       ⟨some 71, none, .bin .add (.t 70) (.k (.int .i64 1))⟩,
                                       ⟨some 12, none, .mv (.t 71)⟩])))))))))
                             (.keep [1, 2, 5, 6, 7, 8]
                              (.ops [⟨some 79, none, .fldA 1 (.t 5)⟩,
                                ⟨some 80, none, .load false 1 (.t 79)⟩,
                                ⟨some 81, none, .load true 3 (.t 8)⟩,
                                ⟨some 82, none, .bslice 13 3 1 [.int .i64 0, .int .i64 0, .int .i64 0] [(0, .t 81)]⟩,
                                ⟨some 83, none, .app 13 3 (.t 80) (.t 82)⟩,
                                ⟨some 84, none, .fldA 1 (.t 5)⟩,
                                ⟨none, none, .store 1 (.t 84) (.t 83)⟩])))))))
                        (.keep [1, 2, 5, 6, 7]
                         (.ops [⟨some 37, none, .mv (.t 7)⟩,
                           ⟨some 38, none, .bin .add (.t 37) (.k (.int .i64 1))⟩,
                           ⟨some 7, none, .mv (.t 38)⟩]))))))))))
                (.keep [1, 2, 5, 6]
                 (.ops [⟨some 31, none, .mv (.t 6)⟩,
                   ⟨some 32, none, .bin .add (.t 31) (.k (.int .i64 1))⟩,
                   ⟨some 6, none, .mv (.t 32)⟩])))))))))
         (.keep [2, 5]
          (.seq
           (.ops [⟨some 85, none, .load true 2 (.t 5)⟩,
             ⟨none, none, .store 2 (.t 2) (.t 85)⟩,
             ⟨some 3, none, .mv (.k (.int .i64 0))⟩])
           .ret)))))))))) }
structure N92 (R : Env) : Prop where
  o92 : R.Fn 92 c92
  n85 : N85 R
  n95 : N95 R
def c93 : IFn := { np := 1, rs := [.t 2, .t 3], body :=
 (.seq
  (.ops [⟨some 1, none, .box 12 (.t 0)⟩,
    ⟨some 2, none, .mv (.k (.nils))⟩,
    ⟨some 3, none, .mv (.k (.int .i64 0))⟩])
  (.seq
   (.seq
    (.ops [⟨some 6, none, .load true 2 (.t 1)⟩,
      ⟨some 7, none, .call 85 [.t 6]⟩,
      ⟨some 4, none, .mv (.t 7)⟩])
    (.seq
     (.ops [⟨some 8, none, .mv (.t 4)⟩,
       ⟨some 9, none, .bin .neq (.t 8) (.k (.int .i64 0))⟩])
     (.cond (.t 9)
      (.seq
       (.ops [⟨some 10, none, .mv (.t 4)⟩,
         ⟨some 2, none, .mv (.k (.nils))⟩,
         ⟨some 3, none, .mv (.t 10)⟩])
       .ret)
      .skip)))
   (.keep [1]
    (.seq
     (.ops [⟨some 11, none, .load true 2 (.t 1)⟩,
       ⟨some 12, none, .bslice 12 2 1 [.int .i64 0, .nils] [(0, .t 11)]⟩,
       ⟨some 5, none, .mv (.t 12)⟩])
     (.keep [1, 5]
      (.seq
       (.block 0
        (.loop
         (.seq
          (.seq
           (.ops [⟨some 13, none, .fldA 0 (.t 1)⟩,
             ⟨some 14, none, .load false 1 (.t 13)⟩,
             ⟨some 15, none, .bin .gtr (.t 14) (.k (.int .i64 1))⟩])
           (.cond (.t 15)
            .skip
            (.exit 0)))
          (.keep [1, 5]
           (.block 1
            (.seq
             (.ops [⟨some 17, none, .load true 2 (.t 1)⟩,
               ⟨some 18, none, .call 92 [.t 17]⟩,
               ⟨some 16, none, .mv (.t 18)⟩,
               ⟨some 19, none, .ext (.t 16) 0⟩,
               ⟨some 20, none, .ext (.t 16) 1⟩,
               ⟨none, none, .store 2 (.t 1) (.t 19)⟩])
             (.keep [1, 5]
              (.ops [⟨some 21, none, .mv (.t 5)⟩,
                ⟨some 22, none, .load true 2 (.t 1)⟩,
                ⟨some 23, none, .bslice 12 2 1 [.int .i64 0, .nils] [(0, .t 22)]⟩,
                ⟨some 24, none, .app 12 2 (.t 21) (.t 23)⟩,
                ⟨some 5, none, .mv (.t 24)⟩]))))))))
       (.keep [5]
        (.seq
         (.ops [⟨some 25, none, .mv (.t 5)⟩,
           ⟨some 2, none, .mv (.t 25)⟩,
           ⟨some 3, none, .mv (.k (.int .i64 0))⟩])
         .ret)))))))) }
structure N93 (R : Env) : Prop where
  o93 : R.Fn 93 c93
  n85 : N85 R
  n92 : N92 R
def c98 : IFn := { np := 1, rs := [.cell 2 true 2, .t 3], body :=
 (.seq
  (.ops [⟨some 2, none, .alloc 12 [.int .i64 0, .nils]⟩,
    ⟨some 3, none, .mv (.k (.int .i64 0))⟩])
  (.seq
   (.ops [⟨some 12, none, .mv (.t 0)⟩,
     ⟨some 13, none, .build [.nils, .int .i64 0, .int .i64 0] [(0, 1, .t 12)]⟩,
     ⟨some 14, none, .box 8 (.t 13)⟩,
     ⟨some 4, none, .mv (.t 14)⟩])
   (.seq
    (.ops [⟨some 15, none, .mv (.t 4)⟩,
      ⟨some 16, none, .call 61 [.t 15, .k (.int .i64 1)]⟩,
      ⟨some 17, none, .conv .i64 (.t 16)⟩,
      ⟨some 18, none, .build [.int .i64 0, .nils] [(0, 1, .t 17)]⟩,
      ⟨some 5, none, .alloc 12 [.int .i64 0, .nils]⟩,
      ⟨none, none, .store 2 (.t 5) (.t 18)⟩])
    (.keep [2, 4, 5]
     (.seq
      (.seq
       (.ops [⟨some 6, none, .mv (.k (.int .i64 0))⟩])
       (.keep [2, 4, 5, 6]
        (.block 0
         (.loop
          (.seq
           (.seq
            (.ops [⟨some 19, none, .mv (.t 6)⟩,
              ⟨some 20, none, .fldA 0 (.t 5)⟩,
              ⟨some 21, none, .load false 1 (.t 20)⟩,
              ⟨some 22, none, .fldA 0 (.t 5)⟩,
              ⟨some 23, none, .load false 1 (.t 22)⟩,
              ⟨some 24, none, .bin .mul (.t 21) (.t 23)⟩,
              ⟨some 25, none, .bin .lss (.t 19) (.t 24)⟩,
              ⟨some 26, none, .mv (.t 25)⟩,
              ⟨some 27, some (26, true), .mv (.t 4)⟩,
              ⟨some 28, some (26, true), .nilck (.t 27)⟩,
              ⟨some 29, some (26, true), .fldA 2 (.t 28)⟩,
              ⟨some 30, some (26, true), .load false 1 (.t 29)⟩,
              ⟨some 31, some (26, true), .bin .eql (.t 30) (.k (.int .i64 0))⟩,
              ⟨some 32, none, .pick (.t 26) (.t 31) (.k (.bool false))⟩])
            (.keep [2, 4, 5, 6, 32]
             (.cond (.t 32)
              .skip
              (.exit 0))))
           (.keep [2, 4, 5, 6]
            (.seq
             (.block 1
              (.seq
               (.ops [⟨some 35, none, .mv (.t 4)⟩,
                 ⟨some 36, none, .call 61 [.t 35, .k (.int .i64 1)]⟩,
                 ⟨some 37, none, .conv .i64 (.t 36)⟩,
                 ⟨some 7, none, .mv (.t 37)⟩])
               (.seq
                (.ops [⟨some 38, none, .mv (.t 4)⟩,
                  ⟨some 39, none, .call 61 [.t 38, .k (.int .i64 1)]⟩,
                  ⟨some 40, none, .conv .i64 (.t 39)⟩,
                  ⟨some 8, none, .mv (.t 40)⟩])
                (.seq
                 (.ops [⟨some 41, none, .mv (.t 4)⟩,
                   ⟨some 42, none, .call 61 [.t 41, .k (.int .i64 1)]⟩,
                   ⟨some 43, none, .conv .i64 (.t 42)⟩,
                   ⟨some 9, none, .mv (.t 43)⟩])
                 (.ops [⟨some 44, none, .fldA 1 (.t 5)⟩,
                   ⟨some 45, none, .load false 1 (.t 44)⟩,
                   ⟨some 46, none, .mv (.t 7)⟩,
                   ⟨some 47, none, .mv (.t 8)⟩,
                   ⟨some 48, none, .mv (.t 9)⟩,
                   ⟨some 49, none, .build [.int .i64 0, .int .i64 0, .int .i64 0] [(0, 1, .t 46), (1, 1, .t 47), (2, 1, .t 48)]⟩,
                   ⟨some 50, none, .bslice 13 3 1 [.int .i64 0, .int .i64 0, .int .i64 0] [(0, .t 49)]⟩,
                   ⟨some 51, none, .app 13 3 (.t 45) (.t 50)⟩,
                   ⟨some 52, none, .fldA 1 (.t 5)⟩,
                   ⟨none, none, .store 1 (.t 52) (.t 51)⟩])))))
             (.keep [2, 4, 5, 6]
              (.ops [⟨some 33, none, .mv (.t 6)⟩,
                ⟨some 34, none, .bin .add (.t 33) (.k (.int .i64 1))⟩,
                ⟨some 6, none, .mv (.t 34)⟩])))))))))
      (.keep [2, 4, 5]
       (.seq
        (.seq
         (.ops [⟨some 53, none, .mv (.t 4)⟩,
           ⟨some 54, none, .call 69 [.t 53]⟩,
           ⟨some 10, none, .mv (.t 54)⟩])
         (.seq
          (.ops [⟨some 55, none, .mv (.t 10)⟩,
            ⟨some 56, none, .bin .neq (.t 55) (.k (.int .i64 0))⟩])
          (.cond (.t 56)
           (.seq
            (.ops [⟨some 57, none, .build [.int .i64 0, .nils] []⟩,
              ⟨some 58, none, .mv (.t 10)⟩,
              ⟨none, none, .store 2 (.t 2) (.t 57)⟩,
              ⟨some 3, none, .mv (.t 58)⟩])
            .ret)
           .skip)))
        (.keep [2, 5]
         (.seq
          (.seq
           (.ops [⟨some 59, none, .load true 2 (.t 5)⟩,
             ⟨some 60, none, .call 85 [.t 59]⟩,
             ⟨some 11, none, .mv (.t 60)⟩])
           (.seq
            (.ops [⟨some 61, none, .mv (.t 11)⟩,
              ⟨some 62, none, .bin .neq (.t 61) (.k (.int .i64 0))⟩])
            (.cond (.t 62)
             (.seq
              (.ops [⟨some 63, none, .build [.int .i64 0, .nils] []⟩,
                ⟨some 64, none, .mv (.t 11)⟩,
                ⟨none, none, .store 2 (.t 2) (.t 63)⟩,
                ⟨some 3, none, .mv (.t 64)⟩])
              .ret)
             .skip)))
          (.keep [2, 5]
           (.seq
            (.ops [⟨some 65, none, .load true 2 (.t 5)⟩,
              ⟨none, none, .store 2 (.t 2) (.t 65)⟩,
              ⟨some 3, none, .mv (.k (.int .i64 0))⟩])
            .ret))))))))))) }
structure N98 (R : Env) : Prop where
  o98 : R.Fn 98 c98
  n61 : N61 R
  n69 : N69 R
  n85 : N85 R
end Go.UM
