/- Of the reckoning machine, and what is proved with it: texts joined by program. -/
import Derived.Test.YtcdmkciicdngdaaK2
set_option linter.all false

/- The resolved code of package lib, function by function; numbers are those of the register, the same for all programs. -/

namespace Go.UM
open Go.AM
/-- slices.Clone[[]byte,byte][[]uint8,uint8] -/
def c62 : IFn := { np := 1, rs := [.t 2], body :=
 (.seq
  (.ops [⟨some 2, none, .mv (.k (.nils))⟩])
  (.seq
   (.seq
    (.ops [⟨some 3, none, .mv (.t 0)⟩,
      ⟨some 4, none, .isnS false (.t 3)⟩])
    (.cond (.t 4)
     (.seq
      (.ops [⟨some 2, none, .mv (.k (.nils))⟩])
      .ret)
     .skip))
   (.keep [0]
    (.seq
     (.ops [⟨some 5, none, .bslice 4 1 0 [.int .u8 0] []⟩,
       ⟨some 6, none, .mv (.t 0)⟩,
       ⟨some 7, none, .app 4 1 (.t 5) (.t 6)⟩,
       ⟨some 2, none, .mv (.t 7)⟩])
     .ret)))) }
structure N62 (R : Env) : Prop where
  o62 : R.Fn 62 c62
/-- bytes.Equal -/
def c47 : IFn := { np := 2, rs := [.t 4], body :=
 (.seq
  (.ops [⟨some 4, none, .mv (.k (.bool false))⟩])
  (.seq
   (.ops [⟨some 5, none, .mv (.t 0)⟩,
     ⟨some 6, none, .b2s (.t 5)⟩,
     ⟨some 7, none, .mv (.t 1)⟩,
     ⟨some 8, none, .b2s (.t 7)⟩,
     ⟨some 9, none, .bst .eql (.t 6) (.t 8)⟩,
     ⟨some 4, none, .mv (.t 9)⟩])
   (.keep [4]
    .ret))) }
structure N47 (R : Env) : Prop where
  o47 : R.Fn 47 c47
/-- slices.Clone[[][3]int,[3]int][[][3]int,[3]int] -/
def c101 : IFn := { np := 1, rs := [.t 2], body :=
 (.seq
  (.ops [⟨some 2, none, .mv (.k (.nils))⟩])
  (.seq
   (.seq
    (.ops [⟨some 3, none, .mv (.t 0)⟩,
      ⟨some 4, none, .isnS false (.t 3)⟩])
    (.cond (.t 4)
     (.seq
      (.ops [⟨some 2, none, .mv (.k (.nils))⟩])
      .ret)
     .skip))
   (.keep [0]
    (.seq
     (.ops [⟨some 5, none, .bslice 13 3 0 [.int .i64 0, .int .i64 0, .int .i64 0] []⟩,
       ⟨some 6, none, .mv (.t 0)⟩,
       ⟨some 7, none, .app 13 3 (.t 5) (.t 6)⟩,
       ⟨some 2, none, .mv (.t 7)⟩])
     .ret)))) }
structure N101 (R : Env) : Prop where
  o101 : R.Fn 101 c101
/-- slices.Clone[[]int,int][[]int,int] -/
def c156 : IFn := { np := 1, rs := [.t 2], body :=
 (.seq
  (.ops [⟨some 2, none, .mv (.k (.nils))⟩])
  (.seq
   (.seq
    (.ops [⟨some 3, none, .mv (.t 0)⟩,
      ⟨some 4, none, .isnS false (.t 3)⟩])
    (.cond (.t 4)
     (.seq
      (.ops [⟨some 2, none, .mv (.k (.nils))⟩])
      .ret)
     .skip))
   (.keep [0]
    (.seq
     (.ops [⟨some 5, none, .bslice 10 1 0 [.int .i64 0] []⟩,
       ⟨some 6, none, .mv (.t 0)⟩,
       ⟨some 7, none, .app 10 1 (.t 5) (.t 6)⟩,
       ⟨some 2, none, .mv (.t 7)⟩])
     .ret)))) }
structure N156 (R : Env) : Prop where
  o156 : R.Fn 156 c156
/-- slices.IndexFunc[[]umbra.api.Point,umbra.api.Point][[]api.Point,umbra.api.Point] -/
def c217 : IFn := { np := 2, rs := [.t 4], body :=
 (.seq
  (.ops [⟨some 4, none, .mv (.k (.int .i64 0))⟩])
  (.seq
   (.seq
    (.ops [⟨some 6, none, .mv (.t 0)⟩,
      ⟨some 7, none, .lenS (.t 6)⟩,
      ⟨some 8, none, .mv (.k (.int .i64 0))⟩])
    (.keep [0, 1, 7, 8]
     (.block 0
      (.loop
       (.seq
        (.ops [⟨some 9, none, .bin .lss (.t 8) (.t 7)⟩])
        (.seq
         (.cond (.t 9)
          .skip
          (.exit 0))
         (.keep [0, 1, 7, 8]
          (.seq
           (.block 1
            (.seq
             (.ops [⟨some 10, none, .mv (.t 8)⟩,
               ⟨some 5, none, .mv (.t 10)⟩])
             (.seq
              (.ops [⟨some 11, none, .mv (.t 1)⟩,
                ⟨some 12, none, .mv (.t 0)⟩,
                ⟨some 13, none, .mv (.t 5)⟩,
                ⟨some 14, none, .idxS 3 (.t 12) (.t 13)⟩,
                ⟨some 15, none, .load true 3 (.t 14)⟩,
                ⟨some 16, none, .callv (.t 11) [.t 15]⟩])
              (.keep [0, 1, 5, 7, 8, 16]
               (.cond (.t 16)
                (.seq
                 (.ops [⟨some 17, none, .mv (.t 5)⟩,
                   ⟨some 4, none, .mv (.t 17)⟩])
                 .ret)
                .skip)))))
           (.keep [0, 1, 7, 8]
            (.ops [⟨some 18, none, .bin .add (.t 8) (.k (.int .i64 1))⟩,
              ⟨some 8, none, .mv (.t 18)⟩]))))))))))
   (.keep []
    (.seq
     (.ops [⟨some 4, none, .mv (.k (.int .i64 (-1)))⟩])
     .ret)))) }
structure N217 (R : Env) : Prop where
  o217 : R.Fn 217 c217
/-- slices.ContainsFunc[[]umbra.api.Point,umbra.api.Point][[]api.Point,umbra.api.Point] -/
def c209 : IFn := { np := 2, rs := [.t 4], body :=
 (.seq
  (.ops [⟨some 4, none, .mv (.k (.bool false))⟩])
  (.seq
   (.ops [⟨some 5, none, .mv (.t 0)⟩,
     ⟨some 6, none, .mv (.t 1)⟩,
     ⟨some 7, none, .call 217 [.t 5, .t 6]⟩,
     ⟨some 8, none, .bin .geq (.t 7) (.k (.int .i64 0))⟩,
     ⟨some 4, none, .mv (.t 8)⟩])
   (.keep [4]
    .ret))) }
structure N209 (R : Env) : Prop where
  o209 : R.Fn 209 c209
  n217 : N217 R
/-- slices.IndexFunc[[][2]int,[2]int][[][2]int,[2]int] -/
def c218 : IFn := { np := 2, rs := [.t 4], body :=
 (.seq
  (.ops [⟨some 4, none, .mv (.k (.int .i64 0))⟩])
  (.seq
   (.seq
    (.ops [⟨some 6, none, .mv (.t 0)⟩,
      ⟨some 7, none, .lenS (.t 6)⟩,
      ⟨some 8, none, .mv (.k (.int .i64 0))⟩])
    (.keep [0, 1, 7, 8]
     (.block 0
      (.loop
       (.seq
        (.ops [⟨some 9, none, .bin .lss (.t 8) (.t 7)⟩])
        (.seq
         (.cond (.t 9)
          .skip
          (.exit 0))
         (.keep [0, 1, 7, 8]
          (.seq
           (.block 1
            (.seq
             (.ops [⟨some 10, none, .mv (.t 8)⟩,
               ⟨some 5, none, .mv (.t 10)⟩])
             (.seq
              (.ops [⟨some 11, none, .mv (.t 1)⟩,
                ⟨some 12, none, .mv (.t 0)⟩,
                ⟨some 13, none, .mv (.t 5)⟩,
                ⟨some 14, none, .idxS 2 (.t 12) (.t 13)⟩,
                ⟨some 15, none, .load true 2 (.t 14)⟩,
                ⟨some 16, none, .callv (.t 11) [.t 15]⟩])
              (.keep [0, 1, 5, 7, 8, 16]
               (.cond (.t 16)
                (.seq
                 (.ops [⟨some 17, none, .mv (.t 5)⟩,
                   ⟨some 4, none, .mv (.t 17)⟩])
                 .ret)
                .skip)))))
           (.keep [0, 1, 7, 8]
            (.ops [⟨some 18, none, .bin .add (.t 8) (.k (.int .i64 1))⟩,
              ⟨some 8, none, .mv (.t 18)⟩]))))))))))
   (.keep []
    (.seq
     (.ops [⟨some 4, none, .mv (.k (.int .i64 (-1)))⟩])
     .ret)))) }
structure N218 (R : Env) : Prop where
  o218 : R.Fn 218 c218
/-- slices.ContainsFunc[[][2]int,[2]int][[][2]int,[2]int] -/
def c210 : IFn := { np := 2, rs := [.t 4], body :=
 (.seq
  (.ops [⟨some 4, none, .mv (.k (.bool false))⟩])
  (.seq
   (.ops [⟨some 5, none, .mv (.t 0)⟩,
     ⟨some 6, none, .mv (.t 1)⟩,
     ⟨some 7, none, .call 218 [.t 5, .t 6]⟩,
     ⟨some 8, none, .bin .geq (.t 7) (.k (.int .i64 0))⟩,
     ⟨some 4, none, .mv (.t 8)⟩])
   (.keep [4]
    .ret))) }
structure N210 (R : Env) : Prop where
  o210 : R.Fn 210 c210
  n218 : N218 R
/-- slices.IndexFunc[[][3]int,[3]int][[][3]int,[3]int] -/
def c219 : IFn := { np := 2, rs := [.t 4], body :=
 (.seq
  (.ops [⟨some 4, none, .mv (.k (.int .i64 0))⟩])
  (.seq
   (.seq
    (.ops [⟨some 6, none, .mv (.t 0)⟩,
      ⟨some 7, none, .lenS (.t 6)⟩,
      ⟨some 8, none, .mv (.k (.int .i64 0))⟩])
    (.keep [0, 1, 7, 8]
     (.block 0
      (.loop
       (.seq
        (.ops [⟨some 9, none, .bin .lss (.t 8) (.t 7)⟩])
        (.seq
         (.cond (.t 9)
          .skip
          (.exit 0))
         (.keep [0, 1, 7, 8]
          (.seq
           (.block 1
            (.seq
             (.ops [⟨some 10, none, .mv (.t 8)⟩,
               ⟨some 5, none, .mv (.t 10)⟩])
             (.seq
              (.ops [⟨some 11, none, .mv (.t 1)⟩,
                ⟨some 12, none, .mv (.t 0)⟩,
                ⟨some 13, none, .mv (.t 5)⟩,
                ⟨some 14, none, .idxS 3 (.t 12) (.t 13)⟩,
                ⟨some 15, none, .load true 3 (.t 14)⟩,
                ⟨some 16, none, .callv (.t 11) [.t 15]⟩])
              (.keep [0, 1, 5, 7, 8, 16]
               (.cond (.t 16)
                (.seq
                 (.ops [⟨some 17, none, .mv (.t 5)⟩,
                   ⟨some 4, none, .mv (.t 17)⟩])
                 .ret)
                .skip)))))
           (.keep [0, 1, 7, 8]
            (.ops [⟨some 18, none, .bin .add (.t 8) (.k (.int .i64 1))⟩,
              ⟨some 8, none, .mv (.t 18)⟩]))))))))))
   (.keep []
    (.seq
     (.ops [⟨some 4, none, .mv (.k (.int .i64 (-1)))⟩])
     .ret)))) }
structure N219 (R : Env) : Prop where
  o219 : R.Fn 219 c219
/-- slices.ContainsFunc[[][3]int,[3]int][[][3]int,[3]int] -/
def c211 : IFn := { np := 2, rs := [.t 4], body :=
 (.seq
  (.ops [⟨some 4, none, .mv (.k (.bool false))⟩])
  (.seq
   (.ops [⟨some 5, none, .mv (.t 0)⟩,
     ⟨some 6, none, .mv (.t 1)⟩,
     ⟨some 7, none, .call 219 [.t 5, .t 6]⟩,
     ⟨some 8, none, .bin .geq (.t 7) (.k (.int .i64 0))⟩,
     ⟨some 4, none, .mv (.t 8)⟩])
   (.keep [4]
    .ret))) }
structure N211 (R : Env) : Prop where
  o211 : R.Fn 211 c211
  n219 : N219 R
end Go.UM

/- The resolved code of package pam, function by function; numbers are those of the register, the same for all programs. -/

namespace Go.UM
open Go.AM
/-- umbra.pam.flat -/
def c151 : IFn := { np := 1, rs := [.t 2], body :=
 (.seq
  (.ops [⟨some 2, none, .mv (.k (.nils))⟩])
  (.seq
   (.ops [⟨some 3, none, .mv (.k (.nils))⟩])
   (.seq
    (.seq
     (.ops [⟨some 6, none, .mv (.t 0)⟩,
       ⟨some 7, none, .lenS (.t 6)⟩,
       ⟨some 8, none, .mv (.k (.int .i64 0))⟩])
     (.keep [3, 6, 7, 8]
      (.block 0
       (.loop
        (.seq
         (.ops [⟨some 9, none, .bin .lss (.t 8) (.t 7)⟩])
         (.seq
          (.cond (.t 9)
           .skip
           (.exit 0))
          (.keep [3, 6, 7, 8]
           (.seq
            (.block 1
             (.seq
              (.ops [⟨some 10, none, .idxS 3 (.t 6) (.t 8)⟩,
                ⟨some 11, none, .load true 3 (.t 10)⟩,
                ⟨some 5, none, .alloc 13 [.int .i64 0, .int .i64 0, .int .i64 0]⟩,
                ⟨none, none, .store 3 (.t 5) (.t 11)⟩])
              (.ops [⟨some 12, none, .mv (.t 3)⟩,
                ⟨some 13, none, .slcA 3 1 (.t 5) none none none⟩,
                ⟨some 14, none, .app 10 1 (.t 12) (.t 13)⟩,
                ⟨some 3, none, .mv (.t 14)⟩])))
            (.keep [3, 6, 7, 8]
             (.ops [⟨some 15, none, .bin .add (.t 8) (.k (.int .i64 1))⟩,
               ⟨some 8, none, .mv (.t 15)⟩]))))))))))
    (.keep [3]
     (.seq
      (.ops [⟨some 16, none, .mv (.t 3)⟩,
        ⟨some 2, none, .mv (.t 16)⟩])
      .ret))))) }
structure N151 (R : Env) : Prop where
  o151 : R.Fn 151 c151
/-- umbra.pam.kinds -/
def c152 : IFn := { np := 0, rs := [.cell 0 true 30], body :=
 (.seq
  (.ops [⟨some 0, none, .alloc 21 [.int .i64 0, .int .i64 0, .int .i64 0, .str [], .nils, .int .i64 0, .int .i64 0, .int .i64 0, .str [], .nils, .int .i64 0, .int .i64 0, .int .i64 0, .str [], .nils, .int .i64 0, .int .i64 0, .int .i64 0, .str [], .nils, .int .i64 0, .int .i64 0, .int .i64 0, .str [], .nils, .int .i64 0, .int .i64 0, .int .i64 0, .str [], .nils]⟩])
  (.seq
   (.ops [⟨some 1, none, .build [.int .i64 0, .int .i64 0, .int .i64 0, .str [], .nils] [(3, 1, .k (.str [66, 69, 65, 85, 84, 89])), (2, 1, .k (.int .i64 3))]⟩,
     ⟨some 2, none, .build [.int .i64 0, .int .i64 0, .int .i64 0, .str [], .nils] [(3, 1, .k (.str [65, 76, 80, 72, 65])), (2, 1, .k (.int .i64 1))]⟩,
     ⟨some 3, none, .build [.int .i64 0, .int .i64 0, .int .i64 0, .str [], .nils] [(3, 1, .k (.str [68, 69, 80, 84, 72])), (2, 1, .k (.int .i64 1))]⟩,
     ⟨some 4, none, .build [.int .i64 0, .int .i64 0, .int .i64 0, .str [], .nils] [(3, 1, .k (.str [78, 79, 82, 77, 65, 76])), (2, 1, .k (.int .i64 3))]⟩,
     ⟨some 5, none, .build [.int .i64 0, .int .i64 0, .int .i64 0, .str [], .nils] [(3, 1, .k (.str [65, 83, 83, 69, 84])), (2, 1, .k (.int .i64 1))]⟩,
     ⟨some 6, none, .build [.int .i64 0, .int .i64 0, .int .i64 0, .str [], .nils] [(3, 1, .k (.str [76, 65, 66, 69, 76])), (2, 1, .k (.int .i64 1))]⟩,
     ⟨some 7, none, .build [.int .i64 0, .int .i64 0, .int .i64 0, .str [], .nils, .int .i64 0, .int .i64 0, .int .i64 0, .str [], .nils, .int .i64 0, .int .i64 0, .int .i64 0, .str [], .nils, .int .i64 0, .int .i64 0, .int .i64 0, .str [], .nils, .int .i64 0, .int .i64 0, .int .i64 0, .str [], .nils, .int .i64 0, .int .i64 0, .int .i64 0, .str [], .nils] [(0, 5, .t 1), (5, 5, .t 2), (10, 5, .t 3), (15, 5, .t 4), (20, 5, .t 5), (25, 5, .t 6)]⟩,
     ⟨none, none, .store 30 (.t 0) (.t 7)⟩])
   (.keep [0]
    .ret))) }
structure N152 (R : Env) : Prop where
  o152 : R.Fn 152 c152
/-- umbra.pam.between -/
def c157 : IFn := { np := 3, rs := [.t 6], body :=
 (.seq
  (.ops [⟨some 6, none, .mv (.k (.bool false))⟩])
  (.seq
   (.ops [⟨some 7, none, .mv (.t 0)⟩,
     ⟨some 8, none, .mv (.t 1)⟩,
     ⟨some 9, none, .bin .geq (.t 7) (.t 8)⟩,
     ⟨some 10, none, .mv (.t 9)⟩,
     ⟨some 11, some (10, true), .mv (.t 0)⟩,
     ⟨some 12, some (10, true), .mv (.t 2)⟩,
     ⟨some 13, some (10, true), .bin .leq (.t 11) (.t 12)⟩,
     ⟨some 14, none, .pick (.t 10) (.t 13) (.k (.bool false))⟩,
     ⟨some 6, none, .mv (.t 14)⟩])
   (.keep [6]
    .ret))) }
structure N157 (R : Env) : Prop where
  o157 : R.Fn 157 c157
/-- umbra.pam.named -/
def c158 : IFn := { np := 1, rs := [.t 2], body :=
 (.seq
  (.ops [⟨some 2, none, .mv (.k (.bool false))⟩])
  (.seq
   (.seq
    (.ops [⟨some 5, none, .mv (.t 0)⟩,
      ⟨some 6, none, .s2b 4 (.t 5)⟩,
      ⟨some 7, none, .lenS (.t 6)⟩,
      ⟨some 8, none, .mv (.k (.int .i64 0))⟩])
    (.keep [0, 6, 7, 8]
     (.block 0
      (.loop
       (.seq
        (.ops [⟨some 9, none, .bin .lss (.t 8) (.t 7)⟩])
        (.seq
         (.cond (.t 9)
          .skip
          (.exit 0))
         (.keep [0, 6, 7, 8]
          (.seq
           (.block 1
            (.seq
             (.ops [⟨some 10, none, .idxS 1 (.t 6) (.t 8)⟩,
               ⟨some 11, none, .load false 1 (.t 10)⟩,
               ⟨some 4, none, .mv (.t 11)⟩])
             (.seq
              (.ops [⟨some 12, none, .mv (.t 4)⟩,
                ⟨some 13, none, .bin .lss (.t 12) (.k (.int .u8 65))⟩,
                ⟨some 14, none, .mv (.t 13)⟩,
                ⟨some 15, some (14, false), .mv (.t 4)⟩,
                ⟨some 16, some (14, false), .bin .gtr (.t 15) (.k (.int .u8 90))⟩,
                ⟨some 17, none, .pick (.t 14) (.k (.bool true)) (.t 16)⟩])
              (.keep [0, 6, 7, 8, 17]
               (.cond (.t 17)
                (.seq
                 (.ops [⟨some 2, none, .mv (.k (.bool false))⟩])
                 .ret)
                .skip)))))
           (.keep [0, 6, 7, 8]
            (.ops [⟨some 18, none, .bin .add (.t 8) (.k (.int .i64 1))⟩,
              ⟨some 8, none, .mv (.t 18)⟩]))))))))))
   (.keep [0]
    (.seq
     (.ops [⟨some 19, none, .mv (.t 0)⟩,
       ⟨some 20, none, .lenT (.t 19)⟩,
       ⟨some 21, none, .call 157 [.t 20, .k (.int .i64 1), .k (.int .i64 16)]⟩,
       ⟨some 2, none, .mv (.t 21)⟩])
     .ret)))) }
structure N158 (R : Env) : Prop where
  o158 : R.Fn 158 c158
  n157 : N157 R
/-- umbra.pam.Check -/
def c153 : IFn := { np := 1, rs := [.t 2], body :=
 (.seq
  (.ops [⟨some 1, none, .box 20 (.t 0)⟩,
    ⟨some 2, none, .mv (.k (.int .i64 0))⟩])
  (.seq
   (.seq
    (.ops [⟨some 5, none, .fldA 0 (.t 1)⟩,
      ⟨some 6, none, .load false 1 (.t 5)⟩,
      ⟨some 7, none, .call 157 [.t 6, .k (.int .i64 1), .k (.int .i64 64)]⟩,
      ⟨some 8, none, .un .not (.t 7)⟩,
      ⟨some 9, none, .mv (.t 8)⟩,
      ⟨some 10, some (9, false), .fldA 1 (.t 1)⟩,
      ⟨some 11, some (9, false), .load false 1 (.t 10)⟩,
      ⟨some 12, some (9, false), .call 157 [.t 11, .k (.int .i64 1), .k (.int .i64 64)]⟩,
      ⟨some 13, some (9, false), .un .not (.t 12)⟩,
      ⟨some 14, none, .pick (.t 9) (.k (.bool true)) (.t 13)⟩,
      ⟨some 15, none, .mv (.t 14)⟩,
      ⟨some 16, some (15, false), .fldA 2 (.t 1)⟩,
      ⟨some 17, some (15, false), .load false 1 (.t 16)⟩,
      ⟨some 18, some (15, false), .call 157 [.t 17, .k (.int .i64 1), .k (.int .i64 4)]⟩,
      ⟨some 19, some (15, false), .un .not (.t 18)⟩,
      ⟨some 20, none, .pick (.t 15) (.k (.bool true)) (.t 19)⟩])
    (.keep [1, 20]
     (.cond (.t 20)
      (.seq
       (.ops [⟨some 2, none, .mv (.k (.int .i64 2))⟩])
       .ret)
      .skip)))
   (.keep [1]
    (.seq
     (.seq
      (.ops [⟨some 21, none, .fldA 3 (.t 1)⟩,
        ⟨some 22, none, .load false 1 (.t 21)⟩,
        ⟨some 23, none, .call 158 [.t 22]⟩,
        ⟨some 24, none, .un .not (.t 23)⟩,
        ⟨some 25, none, .mv (.t 24)⟩,
        ⟨some 26, some (25, false), .fldA 4 (.t 1)⟩,
        ⟨some 27, some (25, false), .load false 1 (.t 26)⟩,
        ⟨some 28, some (25, false), .lenS (.t 27)⟩,
        ⟨some 29, some (25, false), .fldA 0 (.t 1)⟩,
        ⟨some 30, some (25, false), .load false 1 (.t 29)⟩,
        ⟨some 31, some (25, false), .fldA 1 (.t 1)⟩,
        ⟨some 32, some (25, false), .load false 1 (.t 31)⟩,
        ⟨some 33, some (25, false), .bin .mul (.t 30) (.t 32)⟩,
        ⟨some 34, some (25, false), .fldA 2 (.t 1)⟩,
        ⟨some 35, some (25, false), .load false 1 (.t 34)⟩,
        ⟨some 36, some (25, false), .bin .mul (.t 33) (.t 35)⟩,
        ⟨some 37, some (25, false), .bin .neq (.t 28) (.t 36)⟩,
        ⟨some 38, none, .pick (.t 25) (.k (.bool true)) (.t 37)⟩])
      (.keep [1, 38]
       (.cond (.t 38)
        (.seq
         (.ops [⟨some 2, none, .mv (.k (.int .i64 5))⟩])
         .ret)
        .skip)))
     (.keep [1]
      (.seq
       (.seq
        (.ops [⟨some 39, none, .fldA 4 (.t 1)⟩,
          ⟨some 40, none, .load false 1 (.t 39)⟩,
          ⟨some 41, none, .lenS (.t 40)⟩,
          ⟨some 42, none, .mv (.k (.int .i64 0))⟩])
        (.keep [40, 41, 42]
         (.block 0
          (.loop
           (.seq
            (.ops [⟨some 43, none, .bin .lss (.t 42) (.t 41)⟩])
            (.seq
             (.cond (.t 43)
              .skip
              (.exit 0))
             (.keep [40, 41, 42]
              (.seq
               (.block 1
                (.seq
                 (.ops [⟨some 44, none, .idxS 1 (.t 40) (.t 42)⟩,
                   ⟨some 45, none, .load false 1 (.t 44)⟩,
                   ⟨some 4, none, .mv (.t 45)⟩])
                 (.seq
                  (.ops [⟨some 46, none, .mv (.t 4)⟩,
                    ⟨some 47, none, .call 157 [.t 46, .k (.int .i64 0), .k (.int .i64 65535)]⟩,
                    ⟨some 48, none, .un .not (.t 47)⟩])
                  (.cond (.t 48)
                   (.seq
                    (.ops [⟨some 2, none, .mv (.k (.int .i64 5))⟩])
                    .ret)
                   .skip))))
               (.keep [40, 41, 42]
                (.ops [⟨some 49, none, .bin .add (.t 42) (.k (.int .i64 1))⟩,
                  ⟨some 42, none, .mv (.t 49)⟩]))))))))))
       (.keep []
        (.seq
         (.ops [⟨some 2, none, .mv (.k (.int .i64 0))⟩])
         .ret)))))))) }
structure N153 (R : Env) : Prop where
  o153 : R.Fn 153 c153
  n157 : N157 R
  n158 : N158 R
/-- umbra.pam.Planes -/
def c132 : IFn := { np := 1, rs := [.t 2, .t 3], body :=
 (.seq
  (.ops [⟨some 1, none, .box 16 (.t 0)⟩,
    ⟨some 2, none, .mv (.k (.nils))⟩,
    ⟨some 3, none, .mv (.k (.int .i64 0))⟩])
  (.seq
   (.draw [0, 1, 3, 0, 8, 0, 32, 0, 128, 391, 0, 1024, 0, 4096, 16383, 0, 65535] [[1], [9], [10], [1], [12], [1], [14], [1], [16], [17], [1], [19], [1], [21], [11, 13, 15, 18, 20, 22], [], [4, 23]] [⟨some 9, none, .fldA 2 (.t 1)⟩,
     ⟨some 10, none, .load false 1 (.t 9)⟩,
     ⟨some 11, none, .call 151 [.t 10]⟩,
     ⟨some 12, none, .fldA 3 (.t 1)⟩,
     ⟨some 13, none, .load false 1 (.t 12)⟩,
     ⟨some 14, none, .fldA 4 (.t 1)⟩,
     ⟨some 15, none, .load false 1 (.t 14)⟩,
     ⟨some 16, none, .fldA 5 (.t 1)⟩,
     ⟨some 17, none, .load false 1 (.t 16)⟩,
     ⟨some 18, none, .call 151 [.t 17]⟩,
     ⟨some 19, none, .fldA 6 (.t 1)⟩,
     ⟨some 20, none, .load false 1 (.t 19)⟩,
     ⟨some 21, none, .fldA 7 (.t 1)⟩,
     ⟨some 22, none, .load false 1 (.t 21)⟩,
     ⟨some 23, none, .build [.nils, .nils, .nils, .nils, .nils, .nils] [(0, 1, .t 11), (1, 1, .t 13), (2, 1, .t 15), (3, 1, .t 18), (4, 1, .t 20), (5, 1, .t 22)]⟩,
     ⟨some 4, none, .alloc 19 [.nils, .nils, .nils, .nils, .nils, .nils]⟩,
     ⟨none, none, .store 6 (.t 4) (.t 23)⟩])
   (.keep [1, 4]
    (.seq
     (.ops [⟨some 5, none, .mv (.k (.nils))⟩])
     (.seq
      (.seq
       (.ops [⟨some 24, none, .call 152 []⟩,
         ⟨some 25, none, .mv (.k (.int .i64 0))⟩])
       (.keep [1, 4, 5, 24, 25]
        (.block 0
         (.loop
          (.seq
           (.ops [⟨some 26, none, .bin .lss (.t 25) (.k (.int .i64 6))⟩])
           (.seq
            (.cond (.t 26)
             .skip
             (.exit 0))
            (.keep [1, 4, 5, 24, 25]
             (.seq
              (.block 1
               (.seq
                (.ops [⟨some 27, none, .mv (.t 25)⟩,
                  ⟨some 28, none, .idxV true 6 5 (.t 24) (.t 25)⟩,
                  ⟨some 7, none, .alloc 20 [.int .i64 0, .int .i64 0, .int .i64 0, .str [], .nils]⟩,
                  ⟨some 6, none, .mv (.t 27)⟩,
                  ⟨none, none, .store 5 (.t 7) (.t 28)⟩])
                (.keep [1, 4, 5, 6, 7, 24, 25]
                 (.seq
                  (.draw [0, 1, 0, 4, 3, 19, 63, 127] [[1], [29], [1], [31], [7], [33, 30], [7], [34, 32]] [⟨some 29, none, .fldA 0 (.t 1)⟩,
                    ⟨some 30, none, .load false 1 (.t 29)⟩,
                    ⟨some 31, none, .fldA 1 (.t 1)⟩,
                    ⟨some 32, none, .load false 1 (.t 31)⟩,
                    ⟨some 33, none, .fldA 0 (.t 7)⟩,
                    ⟨none, none, .store 1 (.t 33) (.t 30)⟩,
                    ⟨some 34, none, .fldA 1 (.t 7)⟩,
                    ⟨none, none, .store 1 (.t 34) (.t 32)⟩])
                  (.keep [1, 4, 5, 6, 7, 24, 25]
                   (.seq
                    (.ops [⟨some 35, none, .bslice 10 1 0 [.int .i64 0] []⟩,
                      ⟨some 36, none, .mv (.t 6)⟩,
                      ⟨some 37, none, .idxA 6 1 (.t 4) (.t 36)⟩,
                      ⟨some 38, none, .load false 1 (.t 37)⟩,
                      ⟨some 39, none, .app 10 1 (.t 35) (.t 38)⟩,
                      ⟨some 40, none, .fldA 4 (.t 7)⟩,
                      ⟨none, none, .store 1 (.t 40) (.t 39)⟩])
                    (.keep [1, 4, 5, 7, 24, 25]
                     (.seq
                      (.seq
                       (.ops [⟨some 41, none, .load true 5 (.t 7)⟩,
                         ⟨some 42, none, .call 153 [.t 41]⟩,
                         ⟨some 8, none, .mv (.t 42)⟩])
                       (.seq
                        (.ops [⟨some 43, none, .mv (.t 8)⟩,
                          ⟨some 44, none, .bin .neq (.t 43) (.k (.int .i64 0))⟩])
                        (.cond (.t 44)
                         (.seq
                          (.ops [⟨some 45, none, .mv (.t 8)⟩,
                            ⟨some 2, none, .mv (.k (.nils))⟩,
                            ⟨some 3, none, .mv (.t 45)⟩])
                          .ret)
                         .skip)))
                      (.keep [1, 4, 5, 7, 24, 25]
                       (.ops [⟨some 46, none, .mv (.t 5)⟩,
                         ⟨some 47, none, .load true 5 (.t 7)⟩,
                         ⟨some 48, none, .bslice 20 5 1 [.int .i64 0, .int .i64 0, .int .i64 0, .str [], .nils] [(0, .t 47)]⟩,
                         ⟨some 49, none, .app 20 5 (.t 46) (.t 48)⟩,
                         ⟨some 5, none, .mv (.t 49)⟩]))))))))))
              (.keep [1, 4, 5, 24, 25]
               (.ops [⟨some 50, none, .bin .add (.t 25) (.k (.int .i64 1))⟩,
                 ⟨some 25, none, .mv (.t 50)⟩]))))))))))
      (.keep [5]
       (.seq
        (.ops [⟨some 51, none, .mv (.t 5)⟩,
          ⟨some 2, none, .mv (.t 51)⟩,
          ⟨some 3, none, .mv (.k (.int .i64 0))⟩])
        .ret))))))) }
structure N132 (R : Env) : Prop where
  o132 : R.Fn 132 c132
  n151 : N151 R
  n152 : N152 R
  n153 : N153 R
end Go.UM

/- The resolved code of package pack, function by function; numbers are those of the register, the same for all programs. -/


namespace Go.UM
open Go.AM
/-- umbra.pack.expected$1 -/
def c188 : IFn := { np := 4, rs := [.t 6], body :=
 (.seq
  (.ops [⟨some 6, none, .mv (.k (.int .i64 0))⟩])
  (.seq
   (.draw [0, 0, 3, 0, 8, 31, 0, 0, 192, 63, 1023] [[1], [2], [9, 10], [3], [12], [11, 13], [1], [2], [15, 16], [14], [17]] [⟨some 9, none, .mv (.t 1)⟩,
     ⟨some 10, none, .load false 1 (.t 2)⟩,
     ⟨some 11, none, .bin .rem (.t 9) (.t 10)⟩,
     ⟨some 12, none, .fldA 2 (.t 3)⟩,
     ⟨some 13, none, .load false 1 (.t 12)⟩,
     ⟨some 14, none, .bin .geq (.t 11) (.t 13)⟩,
     ⟨some 15, none, .mv (.t 1)⟩,
     ⟨some 16, none, .load false 1 (.t 2)⟩,
     ⟨some 17, none, .bin .geq (.t 15) (.t 16)⟩,
     ⟨some 7, none, .mv (.t 14)⟩,
     ⟨some 8, none, .mv (.t 17)⟩])
   (.keep [0, 1, 2, 3, 7, 8]
    (.seq
     (.block 0
      (.seq
       (.ops [⟨some 19, none, .mv (.t 7)⟩,
         ⟨some 20, none, .mv (.t 19)⟩,
         ⟨some 21, some (20, true), .mv (.t 8)⟩,
         ⟨some 22, none, .pick (.t 20) (.t 21) (.k (.bool false))⟩,
         ⟨some 18, none, .mv (.t 22)⟩])
       (.keep [0, 1, 2, 3, 7, 8, 18]
        (.cond (.t 18)
         (.seq
          (.draw [0, 0, 0, 4, 14, 31, 63, 0, 0, 0, 768, 1920, 3968, 8191, 0, 0, 0, 98304, 0, 262144, 1015808, 2080768, 4177920, 8388607, 16777215] [[0], [1], [3], [25], [24, 26], [23, 27], [28], [0], [1], [2], [31, 32], [30, 33], [34], [29, 35], [0], [1], [2], [38, 39], [3], [41], [40, 42], [37, 43], [44], [36, 45], [46]] [⟨some 23, none, .mv (.t 0)⟩,
            ⟨some 24, none, .mv (.t 1)⟩,
            ⟨some 25, none, .fldA 2 (.t 3)⟩,
            ⟨some 26, none, .load false 1 (.t 25)⟩,
            ⟨some 27, none, .bin .sub (.t 24) (.t 26)⟩,
            ⟨some 28, none, .idxS 1 (.t 23) (.t 27)⟩,
            ⟨some 29, none, .load false 1 (.t 28)⟩,
            ⟨some 30, none, .mv (.t 0)⟩,
            ⟨some 31, none, .mv (.t 1)⟩,
            ⟨some 32, none, .load false 1 (.t 2)⟩,
            ⟨some 33, none, .bin .sub (.t 31) (.t 32)⟩,
            ⟨some 34, none, .idxS 1 (.t 30) (.t 33)⟩,
            ⟨some 35, none, .load false 1 (.t 34)⟩,
            ⟨some 36, none, .bin .add (.t 29) (.t 35)⟩,
            ⟨some 37, none, .mv (.t 0)⟩,
            ⟨some 38, none, .mv (.t 1)⟩,
            ⟨some 39, none, .load false 1 (.t 2)⟩,
            ⟨some 40, none, .bin .sub (.t 38) (.t 39)⟩,
            ⟨some 41, none, .fldA 2 (.t 3)⟩,
            ⟨some 42, none, .load false 1 (.t 41)⟩,
            ⟨some 43, none, .bin .sub (.t 40) (.t 42)⟩,
            ⟨some 44, none, .idxS 1 (.t 37) (.t 43)⟩,
            ⟨some 45, none, .load false 1 (.t 44)⟩,
            ⟨some 46, none, .bin .sub (.t 36) (.t 45)⟩,
            ⟨some 6, none, .mv (.t 46)⟩])
          (.keep [6]
           .ret))
         (.seq
          (.ops [⟨some 48, none, .mv (.t 7)⟩,
            ⟨some 47, none, .mv (.t 48)⟩])
          (.cond (.t 47)
           (.seq
            (.ops [⟨some 49, none, .mv (.t 0)⟩,
              ⟨some 50, none, .mv (.t 1)⟩,
              ⟨some 51, none, .fldA 2 (.t 3)⟩,
              ⟨some 52, none, .load false 1 (.t 51)⟩,
              ⟨some 53, none, .bin .sub (.t 50) (.t 52)⟩,
              ⟨some 54, none, .idxS 1 (.t 49) (.t 53)⟩,
              ⟨some 55, none, .load false 1 (.t 54)⟩,
              ⟨some 6, none, .mv (.t 55)⟩])
            (.keep [6]
             .ret))
           (.seq
            (.ops [⟨some 57, none, .mv (.t 8)⟩,
              ⟨some 56, none, .mv (.t 57)⟩])
            (.cond (.t 56)
             (.seq
              (.ops [⟨some 58, none, .mv (.t 0)⟩,
                ⟨some 59, none, .mv (.t 1)⟩,
                ⟨some 60, none, .load false 1 (.t 2)⟩,
                ⟨some 61, none, .bin .sub (.t 59) (.t 60)⟩,
                ⟨some 62, none, .idxS 1 (.t 58) (.t 61)⟩,
                ⟨some 63, none, .load false 1 (.t 62)⟩,
                ⟨some 6, none, .mv (.t 63)⟩])
              (.keep [6]
               .ret))
             .skip))))))))
     (.keep []
      (.seq
       (.ops [⟨some 6, none, .mv (.k (.int .i64 0))⟩])
       .ret)))))) }
structure N188 (R : Env) : Prop where
  o188 : R.Fn 188 c188
/-- umbra.pack.expected -/
def c182 : IFn := { np := 1, rs := [.t 2], body :=
 (.seq
  (.ops [⟨some 1, none, .box 20 (.t 0)⟩,
    ⟨some 2, none, .mv (.k (.nilf))⟩])
  (.seq
   (.ops [⟨some 4, none, .fldA 0 (.t 1)⟩,
     ⟨some 5, none, .load false 1 (.t 4)⟩,
     ⟨some 6, none, .fldA 2 (.t 1)⟩,
     ⟨some 7, none, .load false 1 (.t 6)⟩,
     ⟨some 8, none, .bin .mul (.t 5) (.t 7)⟩,
     ⟨some 3, none, .alloc 10 [.int .i64 0]⟩,
     ⟨none, none, .store 1 (.t 3) (.t 8)⟩])
   (.keep [1, 3]
    (.seq
     (.ops [⟨some 9, none, .mkf 188 [.t 3, .t 1]⟩,
       ⟨some 2, none, .mv (.t 9)⟩])
     .ret)))) }
structure N182 (R : Env) : Prop where
  o182 : R.Fn 182 c182
  n188 : N188 R
/-- umbra.pack.Deltas -/
def c165 : IFn := { np := 1, rs := [.t 2, .t 3], body :=
 (.seq
  (.ops [⟨some 1, none, .box 20 (.t 0)⟩,
    ⟨some 2, none, .mv (.k (.nils))⟩,
    ⟨some 3, none, .mv (.k (.int .i64 0))⟩])
  (.seq
   (.seq
    (.ops [⟨some 9, none, .load true 5 (.t 1)⟩,
      ⟨some 10, none, .call 153 [.t 9]⟩,
      ⟨some 4, none, .mv (.t 10)⟩])
    (.seq
     (.ops [⟨some 11, none, .mv (.t 4)⟩,
       ⟨some 12, none, .bin .neq (.t 11) (.k (.int .i64 0))⟩])
     (.cond (.t 12)
      (.seq
       (.ops [⟨some 13, none, .mv (.t 4)⟩,
         ⟨some 2, none, .mv (.k (.nils))⟩,
         ⟨some 3, none, .mv (.t 13)⟩])
       .ret)
      .skip)))
   (.keep [1]
    (.seq
     (.ops [⟨some 14, none, .load true 5 (.t 1)⟩,
       ⟨some 15, none, .call 182 [.t 14]⟩,
       ⟨some 5, none, .mv (.t 15)⟩])
     (.seq
      (.ops [⟨some 16, none, .fldA 4 (.t 1)⟩,
        ⟨some 17, none, .load false 1 (.t 16)⟩,
        ⟨some 18, none, .lenS (.t 17)⟩,
        ⟨some 19, none, .mks 10 1 [.int .i64 0] (.t 18) (.t 18)⟩,
        ⟨some 6, none, .mv (.t 19)⟩])
      (.keep [1, 5, 6]
       (.seq
        (.seq
         (.ops [⟨some 20, none, .fldA 4 (.t 1)⟩,
           ⟨some 21, none, .load false 1 (.t 20)⟩,
           ⟨some 22, none, .lenS (.t 21)⟩,
           ⟨some 23, none, .mv (.k (.int .i64 0))⟩])
         (.keep [1, 5, 6, 21, 22, 23]
          (.block 0
           (.loop
            (.seq
             (.ops [⟨some 24, none, .bin .lss (.t 23) (.t 22)⟩])
             (.seq
              (.cond (.t 24)
               .skip
               (.exit 0))
              (.keep [1, 5, 6, 21, 22, 23]
               (.seq
                (.block 1
                 (.seq
                  (.ops [⟨some 25, none, .mv (.t 23)⟩,
                    ⟨some 26, none, .idxS 1 (.t 21) (.t 23)⟩,
                    ⟨some 27, none, .load false 1 (.t 26)⟩,
                    ⟨some 7, none, .mv (.t 25)⟩,
                    ⟨some 8, none, .mv (.t 27)⟩])
                  (.keep [1, 5, 6, 7, 8, 21, 22, 23]
                   (.ops [⟨some 28, none, .mv (.t 6)⟩,
                     ⟨some 29, none, .mv (.t 7)⟩,
                     ⟨some 30, none, .mv (.t 8)⟩,
                     ⟨some 31, none, .mv (.t 5)⟩,
                     ⟨some 32, none, .fldA 4 (.t 1)⟩,
                     ⟨some 33, none, .load false 1 (.t 32)⟩,
                     ⟨some 34, none, .mv (.t 7)⟩,
                     ⟨some 35, none, .callv (.t 31) [.t 33, .t 34]⟩,
                     ⟨some 36, none, .bin .sub (.t 30) (.t 35)⟩,
                     ⟨some 37, none, .bin .add (.t 36) (.k (.int .i64 32768))⟩,
                     ⟨some 38, none, .bin .and (.t 37) (.k (.int .i64 65535))⟩,
                     ⟨some 39, none, .bin .sub (.t 38) (.k (.int .i64 32768))⟩,
                     ⟨some 40, none, .idxS 1 (.t 28) (.t 29)⟩,
                     ⟨none, none, .store 1 (.t 40) (.t 39)⟩]))))
                (.keep [1, 5, 6, 21, 22, 23]
                 (.ops [⟨some 41, none, .bin .add (.t 23) (.k (.int .i64 1))⟩,
                   ⟨some 23, none, .mv (.t 41)⟩]))))))))))
        (.keep [6]
         (.seq
          (.ops [⟨some 42, none, .mv (.t 6)⟩,
            ⟨some 2, none, .mv (.t 42)⟩,
            ⟨some 3, none, .mv (.k (.int .i64 0))⟩])
          .ret))))))))) }
structure N165 (R : Env) : Prop where
  o165 : R.Fn 165 c165
  n153 : N153 R
  n182 : N182 R
/-- umbra.pack.Zig -/
def c168 : IFn := { np := 1, rs := [.t 2], body :=
 (.seq
  (.ops [⟨some 2, none, .mv (.k (.int .i64 0))⟩])
  (.seq
   (.seq
    (.ops [⟨some 3, none, .mv (.t 0)⟩,
      ⟨some 4, none, .bin .lss (.t 3) (.k (.int .i64 0))⟩])
    (.cond (.t 4)
     (.seq
      (.ops [⟨some 5, none, .mv (.t 0)⟩,
        ⟨some 6, none, .bin .mul (.k (.int .i64 (-2))) (.t 5)⟩,
        ⟨some 7, none, .bin .sub (.t 6) (.k (.int .i64 1))⟩,
        ⟨some 2, none, .mv (.t 7)⟩])
      .ret)
     .skip))
   (.keep [0]
    (.seq
     (.ops [⟨some 8, none, .mv (.t 0)⟩,
       ⟨some 9, none, .bin .mul (.k (.int .i64 2)) (.t 8)⟩,
       ⟨some 2, none, .mv (.t 9)⟩])
     .ret)))) }
structure N168 (R : Env) : Prop where
  o168 : R.Fn 168 c168
/-- umbra.pack.short -/
def c187 : IFn := { np := 2, rs := [.t 4], body :=
 (.seq
  (.ops [⟨some 4, none, .mv (.k (.nils))⟩])
  (.keep [0, 1]
   (.seq
    (.block 0
     (.loop
      (.seq
       (.seq
        (.ops [⟨some 5, none, .mv (.t 1)⟩,
          ⟨some 6, none, .bin .geq (.t 5) (.k (.int .i64 128))⟩])
        (.cond (.t 6)
         .skip
         (.exit 0)))
       (.keep [0, 1]
        (.block 1
         (.seq
          (.ops [⟨some 7, none, .mv (.t 0)⟩,
            ⟨some 8, none, .mv (.t 1)⟩,
            ⟨some 9, none, .conv .u8 (.t 8)⟩,
            ⟨some 10, none, .bin .or (.t 9) (.k (.int .u8 128))⟩,
            ⟨some 11, none, .bslice 4 1 1 [.int .u8 0] [(0, .t 10)]⟩,
            ⟨some 12, none, .app 4 1 (.t 7) (.t 11)⟩,
            ⟨some 0, none, .mv (.t 12)⟩])
          (.keep [0, 1]
           (.ops [⟨some 13, none, .mv (.t 1)⟩,
             ⟨some 14, none, .bin .shr (.t 13) (.k (.int .u64 7))⟩,
             ⟨some 1, none, .mv (.t 14)⟩]))))))))
    (.keep [0, 1]
     (.seq
      (.ops [⟨some 15, none, .mv (.t 0)⟩,
        ⟨some 16, none, .mv (.t 1)⟩,
        ⟨some 17, none, .conv .u8 (.t 16)⟩,
        ⟨some 18, none, .bslice 4 1 1 [.int .u8 0] [(0, .t 17)]⟩,
        ⟨some 19, none, .app 4 1 (.t 15) (.t 18)⟩,
        ⟨some 4, none, .mv (.t 19)⟩])
      (.keep [4]
       .ret)))))) }
structure N187 (R : Env) : Prop where
  o187 : R.Fn 187 c187
/-- umbra.pack.Pack -/
def c164 : IFn := { np := 1, rs := [.t 2, .t 3], body :=
 (.seq
  (.ops [⟨some 1, none, .box 20 (.t 0)⟩,
    ⟨some 2, none, .mv (.k (.nils))⟩,
    ⟨some 3, none, .mv (.k (.int .i64 0))⟩])
  (.scope
   (.seq
    (.ops [⟨some 10, none, .load true 5 (.t 1)⟩,
      ⟨some 11, none, .call 165 [.t 10]⟩,
      ⟨some 9, none, .mv (.t 11)⟩,
      ⟨some 12, none, .ext (.t 9) 0⟩,
      ⟨some 13, none, .ext (.t 9) 1⟩,
      ⟨some 4, none, .mv (.t 12)⟩,
      ⟨some 5, none, .mv (.t 13)⟩])
    (.keep [1, 4, 5]
     (.seq
      (.seq
       (.ops [⟨some 14, none, .mv (.t 5)⟩,
         ⟨some 15, none, .bin .neq (.t 14) (.k (.int .i64 0))⟩])
       (.cond (.t 15)
        (.seq
         (.ops [⟨some 16, none, .mv (.t 5)⟩,
           ⟨some 2, none, .mv (.k (.nils))⟩,
           ⟨some 3, none, .mv (.t 16)⟩])
         .ret)
        .skip))
      (.keep [1, 4]
       (.seq
        (.ops [⟨some 17, none, .fldA 0 (.t 1)⟩,
          ⟨some 18, none, .load false 1 (.t 17)⟩,
          ⟨some 19, none, .conv .u8 (.t 18)⟩,
          ⟨some 20, none, .fldA 1 (.t 1)⟩,
          ⟨some 21, none, .load false 1 (.t 20)⟩,
          ⟨some 22, none, .conv .u8 (.t 21)⟩,
          ⟨some 23, none, .fldA 2 (.t 1)⟩,
          ⟨some 24, none, .load false 1 (.t 23)⟩,
          ⟨some 25, none, .conv .u8 (.t 24)⟩,
          ⟨some 26, none, .fldA 3 (.t 1)⟩,
          ⟨some 27, none, .load false 1 (.t 26)⟩,
          ⟨some 28, none, .lenT (.t 27)⟩,
          ⟨some 29, none, .conv .u8 (.t 28)⟩,
          ⟨some 30, none, .bslice 4 1 4 [.int .u8 0] [(0, .t 19), (1, .t 22), (2, .t 25), (3, .t 29)]⟩,
          ⟨some 31, none, .fldA 3 (.t 1)⟩,
          ⟨some 32, none, .load false 1 (.t 31)⟩,
          ⟨some 33, none, .appT 4 (.t 30) (.t 32)⟩,
          ⟨some 6, none, .mv (.t 33)⟩])
        (.keep [4, 6]
         (.seq
          .skip
          (.seq
           (.seq
            (.ops [⟨some 7, none, .mv (.k (.int .i64 0))⟩])
            (.keep [4, 6, 7]
             (.block 0
              (.loop
               (.seq
                (.seq
                 (.ops [⟨some 34, none, .mv (.t 7)⟩,
                   ⟨some 35, none, .mv (.t 4)⟩,
                   ⟨some 36, none, .lenS (.t 35)⟩,
                   ⟨some 37, none, .bin .lss (.t 34) (.t 36)⟩])
                 (.cond (.t 37)
                  .skip
                  (.exit 0)))
                (.keep [4, 6, 7]
                 (.block 1
                  (.seq
                   (.seq
                    (.ops [⟨some 38, none, .mv (.t 4)⟩,
                      ⟨some 39, none, .mv (.t 7)⟩,
                      ⟨some 40, none, .idxS 1 (.t 38) (.t 39)⟩,
                      ⟨some 41, none, .load false 1 (.t 40)⟩,
                      ⟨some 42, none, .bin .neq (.t 41) (.k (.int .i64 0))⟩])
                    (.keep [4, 6, 7, 42]
                     (.cond (.t 42)
                      (.seq
                       (.ops [⟨some 43, none, .mv (.t 6)⟩,
                         ⟨some 44, none, .mv (.t 4)⟩,
                         ⟨some 45, none, .mv (.t 7)⟩,
                         ⟨some 46, none, .idxS 1 (.t 44) (.t 45)⟩,
                         ⟨some 47, none, .load false 1 (.t 46)⟩,
                         ⟨some 48, none, .call 168 [.t 47]⟩,
                         ⟨some 49, none, .call 187 [.t 43, .t 48]⟩,
                         ⟨some 6, none, .mv (.t 49)⟩])
                       (.keep [4, 6, 7]
                        (.seq
                         (.ops [⟨some 50, none, .mv (.t 7)⟩,
                           ⟨some 51, none, .bin .add (.t 50) (.k (.int .i64 1))⟩,
                           ⟨some 7, none, .mv (.t 51)⟩])
                         (.exit 1))))
                      .skip)))
                   (.keep [4, 6, 7]
                    (.seq
                     (.ops [⟨some 8, none, .mv (.k (.int .i64 0))⟩])
                     (.keep [4, 6, 7, 8]
                      (.seq
                       (.block 2
                        (.loop
                         (.seq
                          (.seq
                           (.ops [⟨some 52, none, .mv (.t 7)⟩,
                             ⟨some 53, none, .mv (.t 8)⟩,
                             ⟨some 54, none, .bin .add (.t 52) (.t 53)⟩,
                             ⟨some 55, none, .mv (.t 4)⟩,
                             ⟨some 56, none, .lenS (.t 55)⟩,
                             ⟨some 57, none, .bin .lss (.t 54) (.t 56)⟩,
                             ⟨some 58, none, .mv (.t 57)⟩,
                             ⟨some 59, some (58, true), .mv (.t 4)⟩,
                             ⟨some 60, some (58, true), .mv (.t 7)⟩,
                             ⟨some 61, some (58, true), .mv (.t 8)⟩,
                             ⟨some 62, some (58, true), .bin .add (.t 60) (.t 61)⟩,
                             ⟨some 63, some (58, true), .idxS 1 (.t 59) (.t 62)⟩,
                             ⟨some 64, some (58, true), .load false 1 (.t 63)⟩,
                             ⟨some 65, some (58, true), .bin .eql (.t 64) (.k (.int .i64 0))⟩,
                             ⟨some 66, none, .pick (.t 58) (.t 65) (.k (.bool false))⟩])
                           (.keep [4, 6, 7, 8, 66]
                            (.cond (.t 66)
                             .skip
                             (.exit 2))))
                          (.keep [4, 6, 7, 8]
                           (.block 3
                            (.ops [⟨some 67, none, .mv (.t 8)⟩,
                              ⟨some 68, none, .bin .add (.t 67) (.k (.int .i64 1))⟩,
                              ⟨some 8, none, .mv (.t 68)⟩]))))))
                       (.keep [4, 6, 7, 8]
                        (.seq
                         (.ops [⟨some 69, none, .mv (.t 6)⟩,
                           ⟨some 70, none, .bslice 4 1 1 [.int .u8 0] [(0, .k (.int .u8 0))]⟩,
                           ⟨some 71, none, .app 4 1 (.t 69) (.t 70)⟩,
                           ⟨some 72, none, .mv (.t 8)⟩,
                           ⟨some 73, none, .bin .sub (.t 72) (.k (.int .i64 1))⟩,
                           ⟨some 74, none, .call 187 [.t 71, .t 73]⟩,
                           ⟨some 6, none, .mv (.t 74)⟩])
                         (.keep [4, 6, 7, 8]
                          (.ops [⟨some 75, none, .mv (.t 7)⟩,
                            ⟨some 76, none, .mv (.t 8)⟩,
                            ⟨some 77, none, .bin .add (.t 75) (.t 76)⟩,
                            ⟨some 7, none, .mv (.t 77)⟩]))))))))))))))))
           (.keep [6]
            (.seq
             (.ops [⟨some 78, none, .mv (.t 6)⟩,
               ⟨some 2, none, .mv (.t 78)⟩,
               ⟨some 3, none, .mv (.k (.int .i64 0))⟩])
             .ret)))))))))))) }
structure N164 (R : Env) : Prop where
  o164 : R.Fn 164 c164
  n165 : N165 R
  n168 : N168 R
  n187 : N187 R
/-- umbra.pack.Zag -/
def c169 : IFn := { np := 1, rs := [.t 2], body :=
 (.seq
  (.ops [⟨some 2, none, .mv (.k (.int .i64 0))⟩])
  (.seq
   (.block 0
    (.seq
     (.ops [⟨some 4, none, .mv (.t 0)⟩,
       ⟨some 5, none, .bin .lss (.t 4) (.k (.int .i64 0))⟩,
       ⟨some 3, none, .mv (.t 5)⟩])
     (.cond (.t 3)
      (.seq
       (.ops [⟨some 2, none, .mv (.k (.int .i64 0))⟩])
       .ret)
      (.seq
       (.ops [⟨some 7, none, .mv (.t 0)⟩,
         ⟨some 8, none, .bin .and (.t 7) (.k (.int .i64 1))⟩,
         ⟨some 9, none, .bin .eql (.t 8) (.k (.int .i64 1))⟩,
         ⟨some 6, none, .mv (.t 9)⟩])
       (.cond (.t 6)
        (.seq
         (.ops [⟨some 10, none, .mv (.t 0)⟩,
           ⟨some 11, none, .bin .shr (.t 10) (.k (.int .u64 1))⟩,
           ⟨some 12, none, .un .neg (.t 11)⟩,
           ⟨some 13, none, .bin .sub (.t 12) (.k (.int .i64 1))⟩,
           ⟨some 2, none, .mv (.t 13)⟩])
         (.keep [2]
          .ret))
        .skip)))))
   (.keep [0]
    (.seq
     (.ops [⟨some 14, none, .mv (.t 0)⟩,
       ⟨some 15, none, .bin .shr (.t 14) (.k (.int .u64 1))⟩,
       ⟨some 2, none, .mv (.t 15)⟩])
     .ret)))) }
structure N169 (R : Env) : Prop where
  o169 : R.Fn 169 c169
/-- umbra.pack.Whole -/
def c173 : IFn := { np := 2, rs := [.cell 4 true 5, .t 5], body :=
 (.seq
  (.ops [⟨some 2, none, .box 20 (.t 0)⟩,
    ⟨some 4, none, .alloc 20 [.int .i64 0, .int .i64 0, .int .i64 0, .str [], .nils]⟩,
    ⟨some 5, none, .mv (.k (.int .i64 0))⟩])
  (.seq
   (.seq
    (.ops [⟨some 10, none, .fldA 0 (.t 2)⟩,
      ⟨some 11, none, .load false 1 (.t 10)⟩,
      ⟨some 12, none, .bin .lss (.t 11) (.k (.int .i64 1))⟩,
      ⟨some 13, none, .mv (.t 12)⟩,
      ⟨some 14, some (13, false), .fldA 0 (.t 2)⟩,
      ⟨some 15, some (13, false), .load false 1 (.t 14)⟩,
      ⟨some 16, some (13, false), .bin .gtr (.t 15) (.k (.int .i64 64))⟩,
      ⟨some 17, none, .pick (.t 13) (.k (.bool true)) (.t 16)⟩,
      ⟨some 18, none, .mv (.t 17)⟩,
      ⟨some 19, some (18, false), .fldA 1 (.t 2)⟩,
      ⟨some 20, some (18, false), .load false 1 (.t 19)⟩,
      ⟨some 21, some (18, false), .bin .lss (.t 20) (.k (.int .i64 1))⟩,
      ⟨some 22, none, .pick (.t 18) (.k (.bool true)) (.t 21)⟩,
      ⟨some 23, none, .mv (.t 22)⟩,
      ⟨some 24, some (23, false), .fldA 1 (.t 2)⟩,
      ⟨some 25, some (23, false), .load false 1 (.t 24)⟩,
      ⟨some 26, some (23, false), .bin .gtr (.t 25) (.k (.int .i64 64))⟩,
      ⟨some 27, none, .pick (.t 23) (.k (.bool true)) (.t 26)⟩,
      ⟨some 28, none, .mv (.t 27)⟩,
      ⟨some 29, some (28, false), .fldA 2 (.t 2)⟩,
      ⟨some 30, some (28, false), .load false 1 (.t 29)⟩,
      ⟨some 31, some (28, false), .bin .lss (.t 30) (.k (.int .i64 1))⟩,
      ⟨some 32, none, .pick (.t 28) (.k (.bool true)) (.t 31)⟩,
      ⟨some 33, none, .mv (.t 32)⟩,
      ⟨some 34, some (33, false), .fldA 2 (.t 2)⟩,
      ⟨some 35, some (33, false), .load false 1 (.t 34)⟩,
      ⟨some 36, some (33, false), .bin .gtr (.t 35) (.k (.int .i64 4))⟩,
      ⟨some 37, none, .pick (.t 33) (.k (.bool true)) (.t 36)⟩])
    (.keep [1, 2, 4, 37]
     (.cond (.t 37)
      (.seq
       (.ops [⟨some 38, none, .build [.int .i64 0, .int .i64 0, .int .i64 0, .str [], .nils] []⟩,
         ⟨none, none, .store 5 (.t 4) (.t 38)⟩,
         ⟨some 5, none, .mv (.k (.int .i64 5))⟩])
       .ret)
      .skip)))
   (.keep [1, 2, 4]
    (.seq
     (.seq
      (.ops [⟨some 39, none, .mv (.t 1)⟩,
        ⟨some 40, none, .lenS (.t 39)⟩,
        ⟨some 41, none, .fldA 0 (.t 2)⟩,
        ⟨some 42, none, .load false 1 (.t 41)⟩,
        ⟨some 43, none, .fldA 1 (.t 2)⟩,
        ⟨some 44, none, .load false 1 (.t 43)⟩,
        ⟨some 45, none, .bin .mul (.t 42) (.t 44)⟩,
        ⟨some 46, none, .fldA 2 (.t 2)⟩,
        ⟨some 47, none, .load false 1 (.t 46)⟩,
        ⟨some 48, none, .bin .mul (.t 45) (.t 47)⟩,
        ⟨some 49, none, .bin .neq (.t 40) (.t 48)⟩])
      (.keep [1, 2, 4, 49]
       (.cond (.t 49)
        (.seq
         (.ops [⟨some 50, none, .build [.int .i64 0, .int .i64 0, .int .i64 0, .str [], .nils] []⟩,
           ⟨none, none, .store 5 (.t 4) (.t 50)⟩,
           ⟨some 5, none, .mv (.k (.int .i64 5))⟩])
         .ret)
        .skip)))
     (.keep [1, 2, 4]
      (.seq
       (.ops [⟨some 51, none, .load true 5 (.t 2)⟩,
         ⟨some 52, none, .call 182 [.t 51]⟩,
         ⟨some 6, none, .mv (.t 52)⟩])
       (.seq
        (.ops [⟨some 53, none, .fldA 4 (.t 2)⟩,
          ⟨none, none, .store 1 (.t 53) (.k (.nils))⟩])
        (.seq
         (.seq
          (.ops [⟨some 54, none, .mv (.t 1)⟩,
            ⟨some 55, none, .lenS (.t 54)⟩,
            ⟨some 56, none, .mv (.k (.int .i64 0))⟩])
          (.keep [2, 4, 6, 54, 55, 56]
           (.block 0
            (.loop
             (.seq
              (.ops [⟨some 57, none, .bin .lss (.t 56) (.t 55)⟩])
              (.seq
               (.cond (.t 57)
                .skip
                (.exit 0))
               (.keep [2, 4, 6, 54, 55, 56]
                (.seq
                 (.block 1
                  (.seq
                   (.ops [⟨some 58, none, .mv (.t 56)⟩,
                     ⟨some 59, none, .idxS 1 (.t 54) (.t 56)⟩,
                     ⟨some 60, none, .load false 1 (.t 59)⟩,
                     ⟨some 7, none, .mv (.t 58)⟩,
                     ⟨some 8, none, .mv (.t 60)⟩])
                   (.keep [2, 4, 6, 7, 8, 54, 55, 56]
                    (.seq
                     (.seq
                      (.ops [⟨some 61, none, .mv (.t 8)⟩,
                        ⟨some 62, none, .bin .lss (.t 61) (.k (.int .i64 (-32768)))⟩,
                        ⟨some 63, none, .mv (.t 62)⟩,
                        ⟨some 64, some (63, false), .mv (.t 8)⟩,
                        ⟨some 65, some (63, false), .bin .geq (.t 64) (.k (.int .i64 32768))⟩,
                        ⟨some 66, none, .pick (.t 63) (.k (.bool true)) (.t 65)⟩])
                      (.keep [2, 4, 6, 7, 8, 54, 55, 56, 66]
                       (.cond (.t 66)
                        (.seq
                         (.ops [⟨some 67, none, .build [.int .i64 0, .int .i64 0, .int .i64 0, .str [], .nils] []⟩,
                           ⟨none, none, .store 5 (.t 4) (.t 67)⟩,
                           ⟨some 5, none, .mv (.k (.int .i64 5))⟩])
                         .ret)
                        .skip)))
                     (.keep [2, 4, 6, 7, 8, 54, 55, 56]
                      (.draw [0, 1, 0, 0, 8, 0, 60, 0, 252, 508, 1020, 2047, 4095, 8191] [[2], [68], [6], [2], [71], [7], [70, 72, 73], [8], [74, 75], [76], [77], [69, 78], [2], [80, 79]] [⟨some 68, none, .fldA 4 (.t 2)⟩,
                        ⟨some 69, none, .load false 1 (.t 68)⟩,
                        ⟨some 70, none, .mv (.t 6)⟩,
                        ⟨some 71, none, .fldA 4 (.t 2)⟩,
                        ⟨some 72, none, .load false 1 (.t 71)⟩,
                        ⟨some 73, none, .mv (.t 7)⟩,
                        ⟨some 74, none, .callv (.t 70) [.t 72, .t 73]⟩,
                        ⟨some 75, none, .mv (.t 8)⟩,
                        ⟨some 76, none, .bin .add (.t 74) (.t 75)⟩,
                        ⟨some 77, none, .bin .and (.t 76) (.k (.int .i64 65535))⟩,
                        ⟨some 78, none, .bslice 10 1 1 [.int .i64 0] [(0, .t 77)]⟩,
                        ⟨some 79, none, .app 10 1 (.t 69) (.t 78)⟩,
                        ⟨some 80, none, .fldA 4 (.t 2)⟩,
                        ⟨none, none, .store 1 (.t 80) (.t 79)⟩]))))))
                 (.keep [2, 4, 6, 54, 55, 56]
                  (.ops [⟨some 81, none, .bin .add (.t 56) (.k (.int .i64 1))⟩,
                    ⟨some 56, none, .mv (.t 81)⟩]))))))))))
         (.keep [2, 4]
          (.seq
           (.seq
            (.ops [⟨some 82, none, .load true 5 (.t 2)⟩,
              ⟨some 83, none, .call 153 [.t 82]⟩,
              ⟨some 9, none, .mv (.t 83)⟩])
            (.seq
             (.ops [⟨some 84, none, .mv (.t 9)⟩,
               ⟨some 85, none, .bin .neq (.t 84) (.k (.int .i64 0))⟩])
             (.cond (.t 85)
              (.seq
               (.ops [⟨some 86, none, .build [.int .i64 0, .int .i64 0, .int .i64 0, .str [], .nils] []⟩,
                 ⟨some 87, none, .mv (.t 9)⟩,
                 ⟨none, none, .store 5 (.t 4) (.t 86)⟩,
                 ⟨some 5, none, .mv (.t 87)⟩])
               .ret)
              .skip)))
           (.keep [2, 4]
            (.seq
             (.ops [⟨some 88, none, .load true 5 (.t 2)⟩,
               ⟨none, none, .store 5 (.t 4) (.t 88)⟩,
               ⟨some 5, none, .mv (.k (.int .i64 0))⟩])
             .ret)))))))))))) }
structure N173 (R : Env) : Prop where
  o173 : R.Fn 173 c173
  n153 : N153 R
  n182 : N182 R
/-- umbra.pack.number -/
def c185 : IFn := { np := 1, rs := [.t 2, .t 3], body :=
 (.seq
  (.ops [⟨some 2, none, .mv (.k (.int .i64 0))⟩,
    ⟨some 3, none, .mv (.k (.int .i64 0))⟩])
  (.seq
   (.seq
    (.ops [⟨some 6, none, .mv (.t 0)⟩,
      ⟨some 7, none, .lenS (.t 6)⟩,
      ⟨some 8, none, .mv (.k (.int .i64 0))⟩])
    (.keep [2, 6, 7, 8]
     (.block 0
      (.loop
       (.seq
        (.ops [⟨some 9, none, .bin .lss (.t 8) (.t 7)⟩])
        (.seq
         (.cond (.t 9)
          .skip
          (.exit 0))
         (.keep [2, 6, 7, 8]
          (.seq
           (.block 1
            (.seq
             (.ops [⟨some 10, none, .mv (.t 8)⟩,
               ⟨some 11, none, .idxS 1 (.t 6) (.t 8)⟩,
               ⟨some 12, none, .load false 1 (.t 11)⟩,
               ⟨some 4, none, .mv (.t 10)⟩,
               ⟨some 5, none, .mv (.t 12)⟩])
             (.keep [2, 4, 5, 6, 7, 8]
              (.seq
               (.seq
                (.ops [⟨some 13, none, .mv (.t 4)⟩,
                  ⟨some 14, none, .bin .lss (.t 13) (.k (.int .i64 4))⟩])
                (.cond (.t 14)
                 (.ops [⟨some 15, none, .mv (.t 2)⟩,
                   ⟨some 16, none, .mv (.t 5)⟩,
                   ⟨some 17, none, .bin .and (.t 16) (.k (.int .u8 127))⟩,
                   ⟨some 18, none, .conv .i64 (.t 17)⟩,
                   ⟨some 19, none, .mv (.t 4)⟩,
                   ⟨some 20, none, .bin .mul (.k (.int .i64 7)) (.t 19)⟩,
                   ⟨some 21, none, .bin .shl (.t 18) (.t 20)⟩,
                   ⟨some 22, none, .bin .or (.t 15) (.t 21)⟩,
                   ⟨some 2, none, .mv (.t 22)⟩])
                 .skip))
               (.keep [2, 4, 5, 6, 7, 8]
                (.seq
                 (.ops [⟨some 23, none, .mv (.t 5)⟩,
                   ⟨some 24, none, .bin .lss (.t 23) (.k (.int .u8 128))⟩])
                 (.cond (.t 24)
                  (.seq
                   (.ops [⟨some 25, none, .mv (.t 2)⟩,
                     ⟨some 26, none, .mv (.t 4)⟩,
                     ⟨some 27, none, .bin .add (.t 26) (.k (.int .i64 1))⟩,
                     ⟨some 2, none, .mv (.t 25)⟩,
                     ⟨some 3, none, .mv (.t 27)⟩])
                   (.keep [2, 3]
                    .ret))
                  .skip)))))))
           (.keep [2, 6, 7, 8]
            (.ops [⟨some 28, none, .bin .add (.t 8) (.k (.int .i64 1))⟩,
              ⟨some 8, none, .mv (.t 28)⟩]))))))))))
   (.keep []
    (.seq
     (.ops [⟨some 2, none, .mv (.k (.int .i64 0))⟩,
       ⟨some 3, none, .mv (.k (.int .i64 0))⟩])
     .ret)))) }
structure N185 (R : Env) : Prop where
  o185 : R.Fn 185 c185
/-- umbra.pack.finish -/
def c186 : IFn := { np := 3, rs := [.cell 6 true 5, .t 7], body :=
 (.seq
  (.ops [⟨some 4, none, .box 20 (.t 1)⟩,
    ⟨some 6, none, .alloc 20 [.int .i64 0, .int .i64 0, .int .i64 0, .str [], .nils]⟩,
    ⟨some 7, none, .mv (.k (.int .i64 0))⟩])
  (.seq
   (.ops [⟨some 13, none, .load true 5 (.t 4)⟩,
     ⟨some 14, none, .mv (.t 2)⟩,
     ⟨some 15, none, .call 173 [.t 13, .t 14]⟩,
     ⟨some 12, none, .mv (.t 15)⟩,
     ⟨some 16, none, .ext (.t 12) 0⟩,
     ⟨some 17, none, .ext (.t 12) 1⟩,
     ⟨some 8, none, .alloc 20 [.int .i64 0, .int .i64 0, .int .i64 0, .str [], .nils]⟩,
     ⟨none, none, .store 5 (.t 8) (.t 16)⟩,
     ⟨some 9, none, .mv (.t 17)⟩])
   (.keep [0, 6, 8, 9]
    (.seq
     (.seq
      (.ops [⟨some 18, none, .mv (.t 9)⟩,
        ⟨some 19, none, .bin .neq (.t 18) (.k (.int .i64 0))⟩])
      (.cond (.t 19)
       (.seq
        (.ops [⟨some 20, none, .build [.int .i64 0, .int .i64 0, .int .i64 0, .str [], .nils] []⟩,
          ⟨none, none, .store 5 (.t 6) (.t 20)⟩,
          ⟨some 7, none, .mv (.k (.int .i64 5))⟩])
        .ret)
       .skip))
     (.keep [0, 6, 8]
      (.seq
       (.seq
        (.ops [⟨some 22, none, .load true 5 (.t 8)⟩,
          ⟨some 23, none, .call 164 [.t 22]⟩,
          ⟨some 21, none, .mv (.t 23)⟩,
          ⟨some 24, none, .ext (.t 21) 0⟩,
          ⟨some 25, none, .ext (.t 21) 1⟩,
          ⟨some 10, none, .mv (.t 24)⟩,
          ⟨some 11, none, .mv (.t 25)⟩])
        (.keep [0, 6, 8, 10]
         (.seq
          (.ops [⟨some 26, none, .mv (.t 10)⟩,
            ⟨some 27, none, .mv (.t 0)⟩,
            ⟨some 28, none, .call 47 [.t 26, .t 27]⟩,
            ⟨some 29, none, .un .not (.t 28)⟩])
          (.cond (.t 29)
           (.seq
            (.ops [⟨some 30, none, .build [.int .i64 0, .int .i64 0, .int .i64 0, .str [], .nils] []⟩,
              ⟨none, none, .store 5 (.t 6) (.t 30)⟩,
              ⟨some 7, none, .mv (.k (.int .i64 5))⟩])
            .ret)
           .skip))))
       (.keep [6, 8]
        (.seq
         (.ops [⟨some 31, none, .load true 5 (.t 8)⟩,
           ⟨none, none, .store 5 (.t 6) (.t 31)⟩,
           ⟨some 7, none, .mv (.k (.int .i64 0))⟩])
         .ret)))))))) }
structure N186 (R : Env) : Prop where
  o186 : R.Fn 186 c186
  n47 : N47 R
  n164 : N164 R
  n173 : N173 R
/-- umbra.pack.Unpack -/
def c179 : IFn := { np := 1, rs := [.cell 2 true 5, .t 3], body :=
 (.seq
  (.ops [⟨some 2, none, .alloc 20 [.int .i64 0, .int .i64 0, .int .i64 0, .str [], .nils]⟩,
    ⟨some 3, none, .mv (.k (.int .i64 0))⟩])
  (.seq
   (.seq
    (.ops [⟨some 11, none, .mv (.t 0)⟩,
      ⟨some 12, none, .lenS (.t 11)⟩,
      ⟨some 13, none, .bin .lss (.t 12) (.k (.int .i64 4))⟩,
      ⟨some 14, none, .mv (.t 13)⟩,
      ⟨some 15, some (14, false), .mv (.t 0)⟩,
      ⟨some 16, some (14, false), .lenS (.t 15)⟩,
      ⟨some 17, some (14, false), .mv (.t 0)⟩,
      ⟨some 18, some (14, false), .idxS 1 (.t 17) (.k (.int .i64 3))⟩,
      ⟨some 19, some (14, false), .load false 1 (.t 18)⟩,
      ⟨some 20, some (14, false), .conv .i64 (.t 19)⟩,
      ⟨some 21, some (14, false), .bin .add (.k (.int .i64 4)) (.t 20)⟩,
      ⟨some 22, some (14, false), .bin .lss (.t 16) (.t 21)⟩,
      ⟨some 23, none, .pick (.t 14) (.k (.bool true)) (.t 22)⟩])
    (.keep [0, 2, 23]
     (.cond (.t 23)
      (.seq
       (.ops [⟨some 24, none, .build [.int .i64 0, .int .i64 0, .int .i64 0, .str [], .nils] []⟩,
         ⟨none, none, .store 5 (.t 2) (.t 24)⟩,
         ⟨some 3, none, .mv (.k (.int .i64 4))⟩])
       .ret)
      .skip)))
   (.keep [0, 2]
    (.seq
     (.draw [0, 1, 3, 7, 0, 16, 48, 112, 0, 256, 768, 1792, 0, 0, 8192, 24576, 57344, 122880, 258048, 520192, 1048575, 0, 4194303] [[0], [25], [26], [27], [0], [29], [30], [31], [0], [33], [34], [35], [0], [0], [38], [39], [40], [41], [37, 42], [43], [28, 32, 36, 44], [], [4, 45]] [⟨some 25, none, .mv (.t 0)⟩,
       ⟨some 26, none, .idxS 1 (.t 25) (.k (.int .i64 0))⟩,
       ⟨some 27, none, .load false 1 (.t 26)⟩,
       ⟨some 28, none, .conv .i64 (.t 27)⟩,
       ⟨some 29, none, .mv (.t 0)⟩,
       ⟨some 30, none, .idxS 1 (.t 29) (.k (.int .i64 1))⟩,
       ⟨some 31, none, .load false 1 (.t 30)⟩,
       ⟨some 32, none, .conv .i64 (.t 31)⟩,
       ⟨some 33, none, .mv (.t 0)⟩,
       ⟨some 34, none, .idxS 1 (.t 33) (.k (.int .i64 2))⟩,
       ⟨some 35, none, .load false 1 (.t 34)⟩,
       ⟨some 36, none, .conv .i64 (.t 35)⟩,
       ⟨some 37, none, .mv (.t 0)⟩,
       ⟨some 38, none, .mv (.t 0)⟩,
       ⟨some 39, none, .idxS 1 (.t 38) (.k (.int .i64 3))⟩,
       ⟨some 40, none, .load false 1 (.t 39)⟩,
       ⟨some 41, none, .conv .i64 (.t 40)⟩,
       ⟨some 42, none, .bin .add (.k (.int .i64 4)) (.t 41)⟩,
       ⟨some 43, none, .slcS 4 1 (.t 37) (some (.k (.int .i64 4))) (some (.t 42)) none⟩,
       ⟨some 44, none, .b2s (.t 43)⟩,
       ⟨some 45, none, .build [.int .i64 0, .int .i64 0, .int .i64 0, .str [], .nils] [(0, 1, .t 28), (1, 1, .t 32), (2, 1, .t 36), (3, 1, .t 44)]⟩,
       ⟨some 4, none, .alloc 20 [.int .i64 0, .int .i64 0, .int .i64 0, .str [], .nils]⟩,
       ⟨none, none, .store 5 (.t 4) (.t 45)⟩])
     (.keep [0, 2, 4]
      (.seq
       (.ops [⟨some 46, none, .mv (.t 0)⟩,
         ⟨some 47, none, .mv (.t 0)⟩,
         ⟨some 48, none, .idxS 1 (.t 47) (.k (.int .i64 3))⟩,
         ⟨some 49, none, .load false 1 (.t 48)⟩,
         ⟨some 50, none, .conv .i64 (.t 49)⟩,
         ⟨some 51, none, .bin .add (.k (.int .i64 4)) (.t 50)⟩,
         ⟨some 52, none, .slcS 4 1 (.t 46) (some (.t 51)) none none⟩,
         ⟨some 5, none, .mv (.t 52)⟩])
       (.keep [0, 2, 4, 5]
        (.seq
         (.ops [⟨some 53, none, .fldA 0 (.t 4)⟩,
           ⟨some 54, none, .load false 1 (.t 53)⟩,
           ⟨some 55, none, .fldA 1 (.t 4)⟩,
           ⟨some 56, none, .load false 1 (.t 55)⟩,
           ⟨some 57, none, .bin .mul (.t 54) (.t 56)⟩,
           ⟨some 58, none, .fldA 2 (.t 4)⟩,
           ⟨some 59, none, .load false 1 (.t 58)⟩,
           ⟨some 60, none, .bin .mul (.t 57) (.t 59)⟩,
           ⟨some 6, none, .mv (.t 60)⟩])
         (.keep [0, 2, 4, 5, 6]
          (.seq
           (.seq
            (.ops [⟨some 61, none, .fldA 0 (.t 4)⟩,
              ⟨some 62, none, .load false 1 (.t 61)⟩,
              ⟨some 63, none, .bin .gtr (.t 62) (.k (.int .i64 64))⟩,
              ⟨some 64, none, .mv (.t 63)⟩,
              ⟨some 65, some (64, false), .fldA 1 (.t 4)⟩,
              ⟨some 66, some (64, false), .load false 1 (.t 65)⟩,
              ⟨some 67, some (64, false), .bin .gtr (.t 66) (.k (.int .i64 64))⟩,
              ⟨some 68, none, .pick (.t 64) (.k (.bool true)) (.t 67)⟩,
              ⟨some 69, none, .mv (.t 68)⟩,
              ⟨some 70, some (69, false), .fldA 2 (.t 4)⟩,
              ⟨some 71, some (69, false), .load false 1 (.t 70)⟩,
              ⟨some 72, some (69, false), .bin .gtr (.t 71) (.k (.int .i64 4))⟩,
              ⟨some 73, none, .pick (.t 69) (.k (.bool true)) (.t 72)⟩])
            (.keep [0, 2, 4, 5, 6, 73]
             (.cond (.t 73)
              (.seq
               (.ops [⟨some 74, none, .build [.int .i64 0, .int .i64 0, .int .i64 0, .str [], .nils] []⟩,
                 ⟨none, none, .store 5 (.t 2) (.t 74)⟩,
                 ⟨some 3, none, .mv (.k (.int .i64 5))⟩])
               .ret)
              .skip)))
           (.keep [0, 2, 4, 5, 6]
            (.seq
             (.ops [⟨some 7, none, .mv (.k (.nils))⟩])
             (.keep [0, 2, 4, 5, 6, 7]
              (.seq
               (.block 0
                (.loop
                 (.seq
                  (.seq
                   (.ops [⟨some 75, none, .mv (.t 7)⟩,
                     ⟨some 76, none, .lenS (.t 75)⟩,
                     ⟨some 77, none, .mv (.t 6)⟩,
                     ⟨some 78, none, .bin .lss (.t 76) (.t 77)⟩])
                   (.cond (.t 78)
                    .skip
                    (.exit 0)))
                  (.keep [0, 2, 4, 5, 6, 7]
                   (.block 1
                    (.seq
                     (.ops [⟨some 80, none, .mv (.t 5)⟩,
                       ⟨some 81, none, .call 185 [.t 80]⟩,
                       ⟨some 79, none, .mv (.t 81)⟩,
                       ⟨some 82, none, .ext (.t 79) 0⟩,
                       ⟨some 83, none, .ext (.t 79) 1⟩,
                       ⟨some 8, none, .mv (.t 82)⟩,
                       ⟨some 9, none, .mv (.t 83)⟩])
                     (.keep [0, 2, 4, 5, 6, 7, 8, 9]
                      (.seq
                       (.seq
                        (.ops [⟨some 84, none, .mv (.t 9)⟩,
                          ⟨some 85, none, .bin .eql (.t 84) (.k (.int .i64 0))⟩])
                        (.cond (.t 85)
                         (.seq
                          (.ops [⟨some 86, none, .build [.int .i64 0, .int .i64 0, .int .i64 0, .str [], .nils] []⟩,
                            ⟨none, none, .store 5 (.t 2) (.t 86)⟩,
                            ⟨some 3, none, .mv (.k (.int .i64 4))⟩])
                          .ret)
                         .skip))
                       (.keep [0, 2, 4, 5, 6, 7, 8, 9]
                        (.seq
                         (.ops [⟨some 87, none, .mv (.t 5)⟩,
                           ⟨some 88, none, .mv (.t 9)⟩,
                           ⟨some 89, none, .slcS 4 1 (.t 87) (some (.t 88)) none none⟩,
                           ⟨some 5, none, .mv (.t 89)⟩])
                         (.seq
                          (.seq
                           (.ops [⟨some 90, none, .mv (.t 8)⟩,
                             ⟨some 91, none, .bin .neq (.t 90) (.k (.int .i64 0))⟩])
                           (.cond (.t 91)
                            (.seq
                             (.ops [⟨some 92, none, .mv (.t 7)⟩,
                               ⟨some 93, none, .mv (.t 8)⟩,
                               ⟨some 94, none, .call 169 [.t 93]⟩,
                               ⟨some 95, none, .bslice 10 1 1 [.int .i64 0] [(0, .t 94)]⟩,
                               ⟨some 96, none, .app 10 1 (.t 92) (.t 95)⟩,
                               ⟨some 7, none, .mv (.t 96)⟩])
                             (.keep [0, 2, 4, 5, 6, 7]
                              (.exit 1)))
                            .skip))
                          (.keep [0, 2, 4, 5, 6, 7]
                           (.seq
                            (.ops [⟨some 98, none, .mv (.t 5)⟩,
                              ⟨some 99, none, .call 185 [.t 98]⟩,
                              ⟨some 97, none, .mv (.t 99)⟩,
                              ⟨some 100, none, .ext (.t 97) 0⟩,
                              ⟨some 101, none, .ext (.t 97) 1⟩,
                              ⟨some 10, none, .mv (.t 100)⟩,
                              ⟨some 9, none, .mv (.t 101)⟩])
                            (.keep [0, 2, 4, 5, 6, 7, 9, 10]
                             (.seq
                              (.seq
                               (.ops [⟨some 102, none, .mv (.t 9)⟩,
                                 ⟨some 103, none, .bin .eql (.t 102) (.k (.int .i64 0))⟩])
                               (.cond (.t 103)
                                (.seq
                                 (.ops [⟨some 104, none, .build [.int .i64 0, .int .i64 0, .int .i64 0, .str [], .nils] []⟩,
                                   ⟨none, none, .store 5 (.t 2) (.t 104)⟩,
                                   ⟨some 3, none, .mv (.k (.int .i64 4))⟩])
                                 .ret)
                                .skip))
                              (.keep [0, 2, 4, 5, 6, 7, 9, 10]
                               (.seq
                                (.ops [⟨some 105, none, .mv (.t 5)⟩,
                                  ⟨some 106, none, .mv (.t 9)⟩,
                                  ⟨some 107, none, .slcS 4 1 (.t 105) (some (.t 106)) none none⟩,
                                  ⟨some 5, none, .mv (.t 107)⟩])
                                (.seq
                                 (.seq
                                  (.ops [⟨some 108, none, .mv (.t 10)⟩,
                                    ⟨some 109, none, .mv (.t 6)⟩,
                                    ⟨some 110, none, .mv (.t 7)⟩,
                                    ⟨some 111, none, .lenS (.t 110)⟩,
                                    ⟨some 112, none, .bin .sub (.t 109) (.t 111)⟩,
                                    ⟨some 113, none, .bin .geq (.t 108) (.t 112)⟩])
                                  (.keep [0, 2, 4, 5, 6, 7, 10, 113]
                                   (.cond (.t 113)
                                    (.seq
                                     (.draw [0, 0, 0, 0, 0, 16, 56, 124, 255, 511, 511, 2047, 4095] [[0], [4], [7], [6], [7], [118], [117, 119], [116, 120], [114, 115, 121], [122], [122], [2, 123], [124]] [⟨some 114, none, .mv (.t 0)⟩,
                                       ⟨some 115, none, .load true 5 (.t 4)⟩,
                                       ⟨some 116, none, .mv (.t 7)⟩,
                                       ⟨some 117, none, .mv (.t 6)⟩,
                                       ⟨some 118, none, .mv (.t 7)⟩,
                                       ⟨some 119, none, .lenS (.t 118)⟩,
                                       ⟨some 120, none, .bin .sub (.t 117) (.t 119)⟩,
                                       ⟨some 121, none, .appZ 10 1 [.int .i64 0] (.t 116) (.t 120)⟩,
                                       ⟨some 122, none, .call 186 [.t 114, .t 115, .t 121]⟩,
                                       ⟨some 123, none, .ext (.t 122) 0⟩,
                                       ⟨some 124, none, .ext (.t 122) 1⟩,
                                       ⟨none, none, .store 5 (.t 2) (.t 123)⟩,
                                       ⟨some 3, none, .mv (.t 124)⟩])
                                     (.keep [2, 3]
                                      .ret))
                                    .skip)))
                                 (.keep [0, 2, 4, 5, 6, 7, 10]
                                  (.ops [⟨some 125, none, .mv (.t 7)⟩,
                                    ⟨some 126, none, .mv (.t 10)⟩,
                                    ⟨some 127, none, .bin .add (.t 126) (.k (.int .i64 1))⟩,
                                    ⟨some 128, none, .appZ 10 1 [.int .i64 0] (.t 125) (.t 127)⟩,
                                    ⟨some 7, none, .mv (.t 128)⟩]))))))))))))))))))))
               (.keep [0, 2, 4, 7]
                (.seq
                 (.ops [⟨some 129, none, .mv (.t 0)⟩,
                   ⟨some 130, none, .load true 5 (.t 4)⟩,
                   ⟨some 131, none, .mv (.t 7)⟩,
                   ⟨some 132, none, .call 186 [.t 129, .t 130, .t 131]⟩,
                   ⟨some 133, none, .ext (.t 132) 0⟩,
                   ⟨some 134, none, .ext (.t 132) 1⟩,
                   ⟨none, none, .store 5 (.t 2) (.t 133)⟩,
                   ⟨some 3, none, .mv (.t 134)⟩])
                 (.keep [2, 3]
                  .ret))))))))))))))))) }
structure N179 (R : Env) : Prop where
  o179 : R.Fn 179 c179
  n169 : N169 R
  n185 : N185 R
  n186 : N186 R
/-- umbra.pack.All -/
def c180 : IFn := { np := 1, rs := [.t 2, .t 3], body :=
 (.seq
  (.ops [⟨some 2, none, .mv (.k (.nils))⟩,
    ⟨some 3, none, .mv (.k (.int .i64 0))⟩])
  (.seq
   (.ops [⟨some 4, none, .mv (.k (.nils))⟩])
   (.seq
    (.seq
     (.ops [⟨some 9, none, .mv (.t 0)⟩,
       ⟨some 10, none, .lenS (.t 9)⟩,
       ⟨some 11, none, .mv (.k (.int .i64 0))⟩])
     (.keep [4, 9, 10, 11]
      (.block 0
       (.loop
        (.seq
         (.ops [⟨some 12, none, .bin .lss (.t 11) (.t 10)⟩])
         (.seq
          (.cond (.t 12)
           .skip
           (.exit 0))
          (.keep [4, 9, 10, 11]
           (.seq
            (.block 1
             (.seq
              (.ops [⟨some 13, none, .idxS 5 (.t 9) (.t 11)⟩,
                ⟨some 14, none, .load true 5 (.t 13)⟩,
                ⟨some 6, none, .alloc 20 [.int .i64 0, .int .i64 0, .int .i64 0, .str [], .nils]⟩,
                ⟨none, none, .store 5 (.t 6) (.t 14)⟩])
              (.seq
               (.ops [⟨some 16, none, .load true 5 (.t 6)⟩,
                 ⟨some 17, none, .call 164 [.t 16]⟩,
                 ⟨some 15, none, .mv (.t 17)⟩,
                 ⟨some 18, none, .ext (.t 15) 0⟩,
                 ⟨some 19, none, .ext (.t 15) 1⟩,
                 ⟨some 7, none, .mv (.t 18)⟩,
                 ⟨some 8, none, .mv (.t 19)⟩])
               (.keep [4, 7, 8, 9, 10, 11]
                (.seq
                 (.seq
                  (.ops [⟨some 20, none, .mv (.t 8)⟩,
                    ⟨some 21, none, .bin .neq (.t 20) (.k (.int .i64 0))⟩])
                  (.cond (.t 21)
                   (.seq
                    (.ops [⟨some 22, none, .mv (.t 8)⟩,
                      ⟨some 2, none, .mv (.k (.nils))⟩,
                      ⟨some 3, none, .mv (.t 22)⟩])
                    .ret)
                   .skip))
                 (.keep [4, 7, 9, 10, 11]
                  (.seq
                   (.seq
                    (.ops [⟨some 23, none, .mv (.t 7)⟩,
                      ⟨some 24, none, .lenS (.t 23)⟩,
                      ⟨some 25, none, .bin .gtr (.t 24) (.k (.int .i64 16777215))⟩])
                    (.cond (.t 25)
                     (.seq
                      (.ops [⟨some 2, none, .mv (.k (.nils))⟩,
                        ⟨some 3, none, .mv (.k (.int .i64 3))⟩])
                      .ret)
                     .skip))
                   (.keep [4, 7, 9, 10, 11]
                    (.seq
                     (.ops [⟨some 26, none, .mv (.t 4)⟩,
                       ⟨some 27, none, .mv (.t 7)⟩,
                       ⟨some 28, none, .lenS (.t 27)⟩,
                       ⟨some 29, none, .conv .u8 (.t 28)⟩,
                       ⟨some 30, none, .mv (.t 7)⟩,
                       ⟨some 31, none, .lenS (.t 30)⟩,
                       ⟨some 32, none, .bin .shr (.t 31) (.k (.int .u64 8))⟩,
                       ⟨some 33, none, .conv .u8 (.t 32)⟩,
                       ⟨some 34, none, .mv (.t 7)⟩,
                       ⟨some 35, none, .lenS (.t 34)⟩,
                       ⟨some 36, none, .bin .shr (.t 35) (.k (.int .u64 16))⟩,
                       ⟨some 37, none, .conv .u8 (.t 36)⟩,
                       ⟨some 38, none, .bslice 4 1 3 [.int .u8 0] [(0, .t 29), (1, .t 33), (2, .t 37)]⟩,
                       ⟨some 39, none, .app 4 1 (.t 26) (.t 38)⟩,
                       ⟨some 4, none, .mv (.t 39)⟩])
                     (.keep [4, 7, 9, 10, 11]
                      (.ops [⟨some 40, none, .mv (.t 4)⟩,
                        ⟨some 41, none, .mv (.t 7)⟩,
                        ⟨some 42, none, .app 4 1 (.t 40) (.t 41)⟩,
                        ⟨some 4, none, .mv (.t 42)⟩])))))))))))
            (.keep [4, 9, 10, 11]
             (.ops [⟨some 43, none, .bin .add (.t 11) (.k (.int .i64 1))⟩,
               ⟨some 11, none, .mv (.t 43)⟩]))))))))))
    (.keep [4]
     (.seq
      (.ops [⟨some 44, none, .mv (.t 4)⟩,
        ⟨some 2, none, .mv (.t 44)⟩,
        ⟨some 3, none, .mv (.k (.int .i64 0))⟩])
      .ret))))) }
structure N180 (R : Env) : Prop where
  o180 : R.Fn 180 c180
  n164 : N164 R
/-- umbra.pack.Split -/
def c181 : IFn := { np := 1, rs := [.t 2, .t 3], body :=
 (.seq
  (.ops [⟨some 2, none, .mv (.k (.nils))⟩,
    ⟨some 3, none, .mv (.k (.int .i64 0))⟩])
  (.seq
   (.ops [⟨some 4, none, .mv (.k (.nils))⟩])
   (.keep [0, 4]
    (.seq
     (.block 0
      (.loop
       (.seq
        (.seq
         (.ops [⟨some 8, none, .mv (.t 0)⟩,
           ⟨some 9, none, .lenS (.t 8)⟩,
           ⟨some 10, none, .bin .gtr (.t 9) (.k (.int .i64 0))⟩])
         (.cond (.t 10)
          .skip
          (.exit 0)))
        (.keep [0, 4]
         (.block 1
          (.seq
           (.seq
            (.ops [⟨some 11, none, .mv (.t 0)⟩,
              ⟨some 12, none, .lenS (.t 11)⟩,
              ⟨some 13, none, .bin .lss (.t 12) (.k (.int .i64 3))⟩])
            (.cond (.t 13)
             (.seq
              (.ops [⟨some 2, none, .mv (.k (.nils))⟩,
                ⟨some 3, none, .mv (.k (.int .i64 4))⟩])
              .ret)
             .skip))
           (.keep [0, 4]
            (.seq
             (.draw [0, 1, 3, 7, 0, 16, 48, 112, 240, 511, 0, 1024, 3072, 7168, 15360, 32767, 65535] [[0], [14], [15], [16], [0], [18], [19], [20], [21], [17, 22], [0], [24], [25], [26], [27], [23, 28], [29]] [⟨some 14, none, .mv (.t 0)⟩,
               ⟨some 15, none, .idxS 1 (.t 14) (.k (.int .i64 0))⟩,
               ⟨some 16, none, .load false 1 (.t 15)⟩,
               ⟨some 17, none, .conv .i64 (.t 16)⟩,
               ⟨some 18, none, .mv (.t 0)⟩,
               ⟨some 19, none, .idxS 1 (.t 18) (.k (.int .i64 1))⟩,
               ⟨some 20, none, .load false 1 (.t 19)⟩,
               ⟨some 21, none, .conv .i64 (.t 20)⟩,
               ⟨some 22, none, .bin .shl (.t 21) (.k (.int .u64 8))⟩,
               ⟨some 23, none, .bin .or (.t 17) (.t 22)⟩,
               ⟨some 24, none, .mv (.t 0)⟩,
               ⟨some 25, none, .idxS 1 (.t 24) (.k (.int .i64 2))⟩,
               ⟨some 26, none, .load false 1 (.t 25)⟩,
               ⟨some 27, none, .conv .i64 (.t 26)⟩,
               ⟨some 28, none, .bin .shl (.t 27) (.k (.int .u64 16))⟩,
               ⟨some 29, none, .bin .or (.t 23) (.t 28)⟩,
               ⟨some 5, none, .mv (.t 29)⟩])
             (.keep [0, 4, 5]
              (.seq
               (.seq
                (.ops [⟨some 30, none, .mv (.t 0)⟩,
                  ⟨some 31, none, .lenS (.t 30)⟩,
                  ⟨some 32, none, .bin .sub (.t 31) (.k (.int .i64 3))⟩,
                  ⟨some 33, none, .mv (.t 5)⟩,
                  ⟨some 34, none, .bin .lss (.t 32) (.t 33)⟩])
                (.keep [0, 4, 5, 34]
                 (.cond (.t 34)
                  (.seq
                   (.ops [⟨some 2, none, .mv (.k (.nils))⟩,
                     ⟨some 3, none, .mv (.k (.int .i64 4))⟩])
                   .ret)
                  .skip)))
               (.keep [0, 4, 5]
                (.seq
                 (.ops [⟨some 36, none, .mv (.t 0)⟩,
                   ⟨some 37, none, .mv (.t 5)⟩,
                   ⟨some 38, none, .bin .add (.k (.int .i64 3)) (.t 37)⟩,
                   ⟨some 39, none, .slcS 4 1 (.t 36) (some (.k (.int .i64 3))) (some (.t 38)) none⟩,
                   ⟨some 40, none, .call 179 [.t 39]⟩,
                   ⟨some 35, none, .mv (.t 40)⟩,
                   ⟨some 41, none, .ext (.t 35) 0⟩,
                   ⟨some 42, none, .ext (.t 35) 1⟩,
                   ⟨some 6, none, .alloc 20 [.int .i64 0, .int .i64 0, .int .i64 0, .str [], .nils]⟩,
                   ⟨none, none, .store 5 (.t 6) (.t 41)⟩,
                   ⟨some 7, none, .mv (.t 42)⟩])
                 (.keep [0, 4, 5, 6, 7]
                  (.seq
                   (.seq
                    (.ops [⟨some 43, none, .mv (.t 7)⟩,
                      ⟨some 44, none, .bin .neq (.t 43) (.k (.int .i64 0))⟩])
                    (.cond (.t 44)
                     (.seq
                      (.ops [⟨some 45, none, .mv (.t 7)⟩,
                        ⟨some 2, none, .mv (.k (.nils))⟩,
                        ⟨some 3, none, .mv (.t 45)⟩])
                      .ret)
                     .skip))
                   (.keep [0, 4, 5, 6]
                    (.draw [0, 0, 2, 7, 0, 0, 32, 112, 15, 511] [[4], [6], [47], [46, 48], [0], [5], [51], [50, 52], [49], [53]] [⟨some 46, none, .mv (.t 4)⟩,
                      ⟨some 47, none, .load true 5 (.t 6)⟩,
                      ⟨some 48, none, .bslice 20 5 1 [.int .i64 0, .int .i64 0, .int .i64 0, .str [], .nils] [(0, .t 47)]⟩,
                      ⟨some 49, none, .app 20 5 (.t 46) (.t 48)⟩,
                      ⟨some 50, none, .mv (.t 0)⟩,
                      ⟨some 51, none, .mv (.t 5)⟩,
                      ⟨some 52, none, .bin .add (.k (.int .i64 3)) (.t 51)⟩,
                      ⟨some 53, none, .slcS 4 1 (.t 50) (some (.t 52)) none none⟩,
                      ⟨some 4, none, .mv (.t 49)⟩,
                      ⟨some 0, none, .mv (.t 53)⟩]))))))))))))))))
     (.keep [4]
      (.seq
       (.ops [⟨some 54, none, .mv (.t 4)⟩,
         ⟨some 2, none, .mv (.t 54)⟩,
         ⟨some 3, none, .mv (.k (.int .i64 0))⟩])
       .ret)))))) }
structure N181 (R : Env) : Prop where
  o181 : R.Fn 181 c181
  n179 : N179 R
end Go.UM

/- The resolved code of package umbraref29, function by function; numbers are those of the register, the same for all programs. -/

namespace Go.UM
open Go.AM
/-- umbra.umbraref29.threes -/
def c144 : IFn := { np := 2, rs := [.t 4], body :=
 (.seq
  (.ops [⟨some 4, none, .mv (.k (.bool false))⟩])
  (.seq
   (.seq
    (.ops [⟨some 6, none, .mv (.t 0)⟩,
      ⟨some 7, none, .lenS (.t 6)⟩,
      ⟨some 8, none, .mv (.t 1)⟩,
      ⟨some 9, none, .lenS (.t 8)⟩,
      ⟨some 10, none, .bin .neq (.t 7) (.t 9)⟩])
    (.keep [0, 1, 10]
     (.cond (.t 10)
      (.seq
       (.ops [⟨some 4, none, .mv (.k (.bool false))⟩])
       .ret)
      .skip)))
   (.keep [0, 1]
    (.seq
     (.seq
      (.ops [⟨some 5, none, .mv (.k (.int .i64 0))⟩])
      (.keep [0, 1, 5]
       (.block 0
        (.loop
         (.seq
          (.seq
           (.ops [⟨some 11, none, .mv (.t 5)⟩,
             ⟨some 12, none, .mv (.t 0)⟩,
             ⟨some 13, none, .lenS (.t 12)⟩,
             ⟨some 14, none, .bin .lss (.t 11) (.t 13)⟩])
           (.cond (.t 14)
            .skip
            (.exit 0)))
          (.keep [0, 1, 5]
           (.seq
            (.block 1
             (.seq
              (.draw [0, 0, 3, 7, 0, 0, 48, 112, 255] [[0], [5], [17, 18], [19], [1], [5], [21, 22], [23], [20, 24]] [⟨some 17, none, .mv (.t 0)⟩,
                ⟨some 18, none, .mv (.t 5)⟩,
                ⟨some 19, none, .idxS 3 (.t 17) (.t 18)⟩,
                ⟨some 20, none, .load true 3 (.t 19)⟩,
                ⟨some 21, none, .mv (.t 1)⟩,
                ⟨some 22, none, .mv (.t 5)⟩,
                ⟨some 23, none, .idxS 3 (.t 21) (.t 22)⟩,
                ⟨some 24, none, .load true 3 (.t 23)⟩,
                ⟨some 25, none, .eqa true [.i, .i, .i] (.t 20) (.t 24)⟩])
              (.keep [0, 1, 5, 25]
               (.cond (.t 25)
                (.seq
                 (.ops [⟨some 4, none, .mv (.k (.bool false))⟩])
                 .ret)
                .skip))))
            (.keep [0, 1, 5]
             (.ops [⟨some 15, none, .mv (.t 5)⟩,
               ⟨some 16, none, .bin .add (.t 15) (.k (.int .i64 1))⟩,
               ⟨some 5, none, .mv (.t 16)⟩])))))))))
     (.keep []
      (.seq
       (.ops [⟨some 4, none, .mv (.k (.bool true))⟩])
       .ret)))))) }
structure N144 (R : Env) : Prop where
  o144 : R.Fn 144 c144
/-- umbra.umbraref29.Ints -/
def c145 : IFn := { np := 2, rs := [.t 4], body :=
 (.seq
  (.ops [⟨some 4, none, .mv (.k (.bool false))⟩])
  (.seq
   (.seq
    (.ops [⟨some 6, none, .mv (.t 0)⟩,
      ⟨some 7, none, .lenS (.t 6)⟩,
      ⟨some 8, none, .mv (.t 1)⟩,
      ⟨some 9, none, .lenS (.t 8)⟩,
      ⟨some 10, none, .bin .neq (.t 7) (.t 9)⟩])
    (.keep [0, 1, 10]
     (.cond (.t 10)
      (.seq
       (.ops [⟨some 4, none, .mv (.k (.bool false))⟩])
       .ret)
      .skip)))
   (.keep [0, 1]
    (.seq
     (.seq
      (.ops [⟨some 5, none, .mv (.k (.int .i64 0))⟩])
      (.keep [0, 1, 5]
       (.block 0
        (.loop
         (.seq
          (.seq
           (.ops [⟨some 11, none, .mv (.t 5)⟩,
             ⟨some 12, none, .mv (.t 0)⟩,
             ⟨some 13, none, .lenS (.t 12)⟩,
             ⟨some 14, none, .bin .lss (.t 11) (.t 13)⟩])
           (.cond (.t 14)
            .skip
            (.exit 0)))
          (.keep [0, 1, 5]
           (.seq
            (.block 1
             (.seq
              (.draw [0, 0, 3, 7, 0, 0, 48, 112, 255] [[0], [5], [17, 18], [19], [1], [5], [21, 22], [23], [20, 24]] [⟨some 17, none, .mv (.t 0)⟩,
                ⟨some 18, none, .mv (.t 5)⟩,
                ⟨some 19, none, .idxS 1 (.t 17) (.t 18)⟩,
                ⟨some 20, none, .load false 1 (.t 19)⟩,
                ⟨some 21, none, .mv (.t 1)⟩,
                ⟨some 22, none, .mv (.t 5)⟩,
                ⟨some 23, none, .idxS 1 (.t 21) (.t 22)⟩,
                ⟨some 24, none, .load false 1 (.t 23)⟩,
                ⟨some 25, none, .bin .neq (.t 20) (.t 24)⟩])
              (.keep [0, 1, 5, 25]
               (.cond (.t 25)
                (.seq
                 (.ops [⟨some 4, none, .mv (.k (.bool false))⟩])
                 .ret)
                .skip))))
            (.keep [0, 1, 5]
             (.ops [⟨some 15, none, .mv (.t 5)⟩,
               ⟨some 16, none, .bin .add (.t 15) (.k (.int .i64 1))⟩,
               ⟨some 5, none, .mv (.t 16)⟩])))))))))
     (.keep []
      (.seq
       (.ops [⟨some 4, none, .mv (.k (.bool true))⟩])
       .ret)))))) }
structure N145 (R : Env) : Prop where
  o145 : R.Fn 145 c145
/-- umbra.umbraref29.Same -/
def c117 : IFn := { np := 2, rs := [.t 4], body :=
 (.seq
  (.ops [⟨some 2, none, .box 16 (.t 0)⟩,
    ⟨some 3, none, .box 16 (.t 1)⟩,
    ⟨some 4, none, .mv (.k (.bool false))⟩])
  (.seq
   (.ops [⟨some 5, none, .fldA 0 (.t 2)⟩,
     ⟨some 6, none, .load false 1 (.t 5)⟩,
     ⟨some 7, none, .fldA 0 (.t 3)⟩,
     ⟨some 8, none, .load false 1 (.t 7)⟩,
     ⟨some 9, none, .bin .eql (.t 6) (.t 8)⟩,
     ⟨some 10, none, .mv (.t 9)⟩,
     ⟨some 11, some (10, true), .fldA 1 (.t 2)⟩,
     ⟨some 12, some (10, true), .load false 1 (.t 11)⟩,
     ⟨some 13, some (10, true), .fldA 1 (.t 3)⟩,
     ⟨some 14, some (10, true), .load false 1 (.t 13)⟩,
     ⟨some 15, some (10, true), .bin .eql (.t 12) (.t 14)⟩,
     ⟨some 16, none, .pick (.t 10) (.t 15) (.k (.bool false))⟩,
     ⟨some 17, none, .mv (.t 16)⟩,
     ⟨some 18, some (17, true), .fldA 2 (.t 2)⟩,
     ⟨some 19, some (17, true), .load false 1 (.t 18)⟩,
     ⟨some 20, some (17, true), .fldA 2 (.t 3)⟩,
     ⟨some 21, some (17, true), .load false 1 (.t 20)⟩,
     ⟨some 22, some (17, true), .call 144 [.t 19, .t 21]⟩,
     ⟨some 23, none, .pick (.t 17) (.t 22) (.k (.bool false))⟩,
     ⟨some 24, none, .mv (.t 23)⟩,
     ⟨some 25, some (24, true), .fldA 5 (.t 2)⟩,
     ⟨some 26, some (24, true), .load false 1 (.t 25)⟩,
     ⟨some 27, some (24, true), .fldA 5 (.t 3)⟩,
     ⟨some 28, some (24, true), .load false 1 (.t 27)⟩,
     ⟨some 29, some (24, true), .call 144 [.t 26, .t 28]⟩,
     ⟨some 30, none, .pick (.t 24) (.t 29) (.k (.bool false))⟩,
     ⟨some 31, none, .mv (.t 30)⟩,
     ⟨some 32, some (31, true), .fldA 3 (.t 2)⟩,
     ⟨some 33, some (31, true), .load false 1 (.t 32)⟩,
     ⟨some 34, some (31, true), .fldA 3 (.t 3)⟩,
     ⟨some 35, some (31, true), .load false 1 (.t 34)⟩,
     ⟨some 36, some (31, true), .call 145 [.t 33, .t 35]⟩,
     ⟨some 37, none, .pick (.t 31) (.t 36) (.k (.bool false))⟩,
     ⟨some 38, none, .mv (.t 37)⟩,
     ⟨some 39, some (38, true), .fldA 4 (.t 2)⟩,
     ⟨some 40, some (38, true), .load false 1 (.t 39)⟩,
     ⟨some 41, some (38, true), .fldA 4 (.t 3)⟩,
     ⟨some 42, some (38, true), .load false 1 (.t 41)⟩,
     ⟨some 43, some (38, true), .call 145 [.t 40, .t 42]⟩,
     ⟨some 44, none, .pick (.t 38) (.t 43) (.k (.bool false))⟩,
     ⟨some 45, none, .mv (.t 44)⟩,
     ⟨some 46, some (45, true), .fldA 6 (.t 2)⟩,
     ⟨some 47, some (45, true), .load false 1 (.t 46)⟩,
     ⟨some 48, some (45, true), .fldA 6 (.t 3)⟩,
     ⟨some 49, some (45, true), .load false 1 (.t 48)⟩,
     ⟨some 50, some (45, true), .call 145 [.t 47, .t 49]⟩,
     ⟨some 51, none, .pick (.t 45) (.t 50) (.k (.bool false))⟩,
     ⟨some 52, none, .mv (.t 51)⟩,
     ⟨some 53, some (52, true), .fldA 7 (.t 2)⟩,
     ⟨some 54, some (52, true), .load false 1 (.t 53)⟩,
     ⟨some 55, some (52, true), .fldA 7 (.t 3)⟩,
     ⟨some 56, some (52, true), .load false 1 (.t 55)⟩,
     ⟨some 57, some (52, true), .call 145 [.t 54, .t 56]⟩,
     ⟨some 58, none, .pick (.t 52) (.t 57) (.k (.bool false))⟩,
     ⟨some 4, none, .mv (.t 58)⟩])
   (.keep [4]
    .ret))) }
structure N117 (R : Env) : Prop where
  o117 : R.Fn 117 c117
  n144 : N144 R
  n145 : N145 R
end Go.UM

/- The resolved code of package umbraref30, function by function; numbers are those of the register, the same for all programs. -/

namespace Go.UM
open Go.AM
/-- umbra.umbraref30.flat -/
def c159 : IFn := { np := 1, rs := [.t 2], body :=
 (.seq
  (.ops [⟨some 2, none, .mv (.k (.nils))⟩])
  (.seq
   (.ops [⟨some 3, none, .mv (.k (.nils))⟩])
   (.seq
    (.seq
     (.ops [⟨some 4, none, .mv (.k (.int .i64 0))⟩])
     (.keep [0, 3, 4]
      (.block 0
       (.loop
        (.seq
         (.seq
          (.ops [⟨some 5, none, .mv (.t 4)⟩,
            ⟨some 6, none, .mv (.t 0)⟩,
            ⟨some 7, none, .lenS (.t 6)⟩,
            ⟨some 8, none, .bin .lss (.t 5) (.t 7)⟩])
          (.cond (.t 8)
           .skip
           (.exit 0)))
         (.keep [0, 3, 4]
          (.seq
           (.block 1
            (.draw [0, 0, 0, 6, 14, 30, 0, 0, 192, 448, 960, 0, 0, 6144, 14336, 30720, 65534, 131071, 262143] [[3], [0], [4], [12, 13], [14], [15], [0], [4], [17, 18], [19], [20], [0], [4], [22, 23], [24], [25], [16, 21, 26], [11, 27], [28]] [⟨some 11, none, .mv (.t 3)⟩,
              ⟨some 12, none, .mv (.t 0)⟩,
              ⟨some 13, none, .mv (.t 4)⟩,
              ⟨some 14, none, .idxS 3 (.t 12) (.t 13)⟩,
              ⟨some 15, none, .idxA 3 1 (.t 14) (.k (.int .i64 0))⟩,
              ⟨some 16, none, .load false 1 (.t 15)⟩,
              ⟨some 17, none, .mv (.t 0)⟩,
              ⟨some 18, none, .mv (.t 4)⟩,
              ⟨some 19, none, .idxS 3 (.t 17) (.t 18)⟩,
              ⟨some 20, none, .idxA 3 1 (.t 19) (.k (.int .i64 1))⟩,
              ⟨some 21, none, .load false 1 (.t 20)⟩,
              ⟨some 22, none, .mv (.t 0)⟩,
              ⟨some 23, none, .mv (.t 4)⟩,
              ⟨some 24, none, .idxS 3 (.t 22) (.t 23)⟩,
              ⟨some 25, none, .idxA 3 1 (.t 24) (.k (.int .i64 2))⟩,
              ⟨some 26, none, .load false 1 (.t 25)⟩,
              ⟨some 27, none, .bslice 10 1 3 [.int .i64 0] [(0, .t 16), (1, .t 21), (2, .t 26)]⟩,
              ⟨some 28, none, .app 10 1 (.t 11) (.t 27)⟩,
              ⟨some 3, none, .mv (.t 28)⟩]))
           (.keep [0, 3, 4]
            (.ops [⟨some 9, none, .mv (.t 4)⟩,
              ⟨some 10, none, .bin .add (.t 9) (.k (.int .i64 1))⟩,
              ⟨some 4, none, .mv (.t 10)⟩])))))))))
    (.keep [3]
     (.seq
      (.ops [⟨some 29, none, .mv (.t 3)⟩,
        ⟨some 2, none, .mv (.t 29)⟩])
      .ret))))) }
structure N159 (R : Env) : Prop where
  o159 : R.Fn 159 c159
/-- umbra.umbraref30.deeps -/
def c160 : IFn := { np := 0, rs := [.t 0], body :=
 (.seq
  (.ops [⟨some 0, none, .mv (.k (.nils))⟩])
  (.seq
   (.ops [⟨some 1, none, .bslice 10 1 6 [.int .i64 0] [(0, .k (.int .i64 3)), (1, .k (.int .i64 1)), (2, .k (.int .i64 1)), (3, .k (.int .i64 3)), (4, .k (.int .i64 1)), (5, .k (.int .i64 1))]⟩,
     ⟨some 0, none, .mv (.t 1)⟩])
   .ret)) }
structure N160 (R : Env) : Prop where
  o160 : R.Fn 160 c160
/-- umbra.umbraref30.names -/
def c161 : IFn := { np := 0, rs := [.t 0], body :=
 (.seq
  (.ops [⟨some 0, none, .mv (.k (.nils))⟩])
  (.seq
   (.ops [⟨some 1, none, .bslice 23 1 6 [.str []] [(0, .k (.str [66, 69, 65, 85, 84, 89])), (1, .k (.str [65, 76, 80, 72, 65])), (2, .k (.str [68, 69, 80, 84, 72])), (3, .k (.str [78, 79, 82, 77, 65, 76])), (4, .k (.str [65, 83, 83, 69, 84])), (5, .k (.str [76, 65, 66, 69, 76]))]⟩,
     ⟨some 0, none, .mv (.t 1)⟩])
   .ret)) }
structure N161 (R : Env) : Prop where
  o161 : R.Fn 161 c161
/-- umbra.umbraref30.Check -/
def c162 : IFn := { np := 1, rs := [.t 2], body :=
 (.seq
  (.ops [⟨some 1, none, .box 20 (.t 0)⟩,
    ⟨some 2, none, .mv (.k (.int .i64 0))⟩])
  (.seq
   (.seq
    (.ops [⟨some 5, none, .fldA 0 (.t 1)⟩,
      ⟨some 6, none, .load false 1 (.t 5)⟩,
      ⟨some 7, none, .bin .lss (.t 6) (.k (.int .i64 1))⟩,
      ⟨some 8, none, .mv (.t 7)⟩,
      ⟨some 9, some (8, false), .fldA 0 (.t 1)⟩,
      ⟨some 10, some (8, false), .load false 1 (.t 9)⟩,
      ⟨some 11, some (8, false), .bin .gtr (.t 10) (.k (.int .i64 64))⟩,
      ⟨some 12, none, .pick (.t 8) (.k (.bool true)) (.t 11)⟩,
      ⟨some 13, none, .mv (.t 12)⟩,
      ⟨some 14, some (13, false), .fldA 1 (.t 1)⟩,
      ⟨some 15, some (13, false), .load false 1 (.t 14)⟩,
      ⟨some 16, some (13, false), .bin .lss (.t 15) (.k (.int .i64 1))⟩,
      ⟨some 17, none, .pick (.t 13) (.k (.bool true)) (.t 16)⟩,
      ⟨some 18, none, .mv (.t 17)⟩,
      ⟨some 19, some (18, false), .fldA 1 (.t 1)⟩,
      ⟨some 20, some (18, false), .load false 1 (.t 19)⟩,
      ⟨some 21, some (18, false), .bin .gtr (.t 20) (.k (.int .i64 64))⟩,
      ⟨some 22, none, .pick (.t 18) (.k (.bool true)) (.t 21)⟩,
      ⟨some 23, none, .mv (.t 22)⟩,
      ⟨some 24, some (23, false), .fldA 2 (.t 1)⟩,
      ⟨some 25, some (23, false), .load false 1 (.t 24)⟩,
      ⟨some 26, some (23, false), .bin .lss (.t 25) (.k (.int .i64 1))⟩,
      ⟨some 27, none, .pick (.t 23) (.k (.bool true)) (.t 26)⟩,
      ⟨some 28, none, .mv (.t 27)⟩,
      ⟨some 29, some (28, false), .fldA 2 (.t 1)⟩,
      ⟨some 30, some (28, false), .load false 1 (.t 29)⟩,
      ⟨some 31, some (28, false), .bin .gtr (.t 30) (.k (.int .i64 4))⟩,
      ⟨some 32, none, .pick (.t 28) (.k (.bool true)) (.t 31)⟩])
    (.keep [1, 32]
     (.cond (.t 32)
      (.seq
       (.ops [⟨some 2, none, .mv (.k (.int .i64 2))⟩])
       .ret)
      .skip)))
   (.keep [1]
    (.seq
     (.seq
      (.ops [⟨some 33, none, .fldA 3 (.t 1)⟩,
        ⟨some 34, none, .load false 1 (.t 33)⟩,
        ⟨some 35, none, .lenT (.t 34)⟩,
        ⟨some 36, none, .bin .lss (.t 35) (.k (.int .i64 1))⟩,
        ⟨some 37, none, .mv (.t 36)⟩,
        ⟨some 38, some (37, false), .fldA 3 (.t 1)⟩,
        ⟨some 39, some (37, false), .load false 1 (.t 38)⟩,
        ⟨some 40, some (37, false), .lenT (.t 39)⟩,
        ⟨some 41, some (37, false), .bin .gtr (.t 40) (.k (.int .i64 16))⟩,
        ⟨some 42, none, .pick (.t 37) (.k (.bool true)) (.t 41)⟩,
        ⟨some 43, none, .mv (.t 42)⟩,
        ⟨some 44, some (43, false), .fldA 4 (.t 1)⟩,
        ⟨some 45, some (43, false), .load false 1 (.t 44)⟩,
        ⟨some 46, some (43, false), .lenS (.t 45)⟩,
        ⟨some 47, some (43, false), .fldA 0 (.t 1)⟩,
        ⟨some 48, some (43, false), .load false 1 (.t 47)⟩,
        ⟨some 49, some (43, false), .fldA 1 (.t 1)⟩,
        ⟨some 50, some (43, false), .load false 1 (.t 49)⟩,
        ⟨some 51, some (43, false), .bin .mul (.t 48) (.t 50)⟩,
        ⟨some 52, some (43, false), .fldA 2 (.t 1)⟩,
        ⟨some 53, some (43, false), .load false 1 (.t 52)⟩,
        ⟨some 54, some (43, false), .bin .mul (.t 51) (.t 53)⟩,
        ⟨some 55, some (43, false), .bin .neq (.t 46) (.t 54)⟩,
        ⟨some 56, none, .pick (.t 43) (.k (.bool true)) (.t 55)⟩])
      (.keep [1, 56]
       (.cond (.t 56)
        (.seq
         (.ops [⟨some 2, none, .mv (.k (.int .i64 5))⟩])
         .ret)
        .skip)))
     (.keep [1]
      (.seq
       (.seq
        (.ops [⟨some 3, none, .mv (.k (.int .i64 0))⟩])
        (.keep [1, 3]
         (.block 0
          (.loop
           (.seq
            (.seq
             (.ops [⟨some 57, none, .mv (.t 3)⟩,
               ⟨some 58, none, .fldA 3 (.t 1)⟩,
               ⟨some 59, none, .load false 1 (.t 58)⟩,
               ⟨some 60, none, .lenT (.t 59)⟩,
               ⟨some 61, none, .bin .lss (.t 57) (.t 60)⟩])
             (.keep [1, 3, 61]
              (.cond (.t 61)
               .skip
               (.exit 0))))
            (.keep [1, 3]
             (.seq
              (.block 1
               (.seq
                (.ops [⟨some 64, none, .fldA 3 (.t 1)⟩,
                  ⟨some 65, none, .load false 1 (.t 64)⟩,
                  ⟨some 66, none, .mv (.t 3)⟩,
                  ⟨some 67, none, .idxT (.t 65) (.t 66)⟩,
                  ⟨some 68, none, .bin .lss (.t 67) (.k (.int .u8 65))⟩,
                  ⟨some 69, none, .mv (.t 68)⟩,
                  ⟨some 70, some (69, false), .fldA 3 (.t 1)⟩,
                  ⟨some 71, some (69, false), .load false 1 (.t 70)⟩,
                  ⟨some 72, some (69, false), .mv (.t 3)⟩,
                  ⟨some 73, some (69, false), .idxT (.t 71) (.t 72)⟩,
                  ⟨some 74, some (69, false), .bin .gtr (.t 73) (.k (.int .u8 90))⟩,
                  ⟨some 75, none, .pick (.t 69) (.k (.bool true)) (.t 74)⟩])
                (.keep [1, 3, 75]
                 (.cond (.t 75)
                  (.seq
                   (.ops [⟨some 2, none, .mv (.k (.int .i64 5))⟩])
                   .ret)
                  .skip))))
              (.keep [1, 3]
               (.ops [⟨some 62, none, .mv (.t 3)⟩,
                 ⟨some 63, none, .bin .add (.t 62) (.k (.int .i64 1))⟩,
                 ⟨some 3, none, .mv (.t 63)⟩])))))))))
       (.keep [1]
        (.seq
         (.seq
          (.ops [⟨some 4, none, .mv (.k (.int .i64 0))⟩])
          (.keep [1, 4]
           (.block 2
            (.loop
             (.seq
              (.seq
               (.ops [⟨some 76, none, .mv (.t 4)⟩,
                 ⟨some 77, none, .fldA 4 (.t 1)⟩,
                 ⟨some 78, none, .load false 1 (.t 77)⟩,
                 ⟨some 79, none, .lenS (.t 78)⟩,
                 ⟨some 80, none, .bin .lss (.t 76) (.t 79)⟩])
               (.keep [1, 4, 80]
                (.cond (.t 80)
                 .skip
                 (.exit 2))))
              (.keep [1, 4]
               (.seq
                (.block 3
                 (.seq
                  (.ops [⟨some 83, none, .fldA 4 (.t 1)⟩,
                    ⟨some 84, none, .load false 1 (.t 83)⟩,
                    ⟨some 85, none, .mv (.t 4)⟩,
                    ⟨some 86, none, .idxS 1 (.t 84) (.t 85)⟩,
                    ⟨some 87, none, .load false 1 (.t 86)⟩,
                    ⟨some 88, none, .bin .lss (.t 87) (.k (.int .i64 0))⟩,
                    ⟨some 89, none, .mv (.t 88)⟩,
                    ⟨some 90, some (89, false), .fldA 4 (.t 1)⟩,
                    ⟨some 91, some (89, false), .load false 1 (.t 90)⟩,
                    ⟨some 92, some (89, false), .mv (.t 4)⟩,
                    ⟨some 93, some (89, false), .idxS 1 (.t 91) (.t 92)⟩,
                    ⟨some 94, some (89, false), .load false 1 (.t 93)⟩,
                    ⟨some 95, some (89, false), .bin .gtr (.t 94) (.k (.int .i64 65535))⟩,
                    ⟨some 96, none, .pick (.t 89) (.k (.bool true)) (.t 95)⟩])
                  (.keep [1, 4, 96]
                   (.cond (.t 96)
                    (.seq
                     (.ops [⟨some 2, none, .mv (.k (.int .i64 5))⟩])
                     .ret)
                    .skip))))
                (.keep [1, 4]
                 (.ops [⟨some 81, none, .mv (.t 4)⟩,
                   ⟨some 82, none, .bin .add (.t 81) (.k (.int .i64 1))⟩,
                   ⟨some 4, none, .mv (.t 82)⟩])))))))))
         (.keep []
          (.seq
           (.ops [⟨some 2, none, .mv (.k (.int .i64 0))⟩])
           .ret)))))))))) }
structure N162 (R : Env) : Prop where
  o162 : R.Fn 162 c162
/-- umbra.umbraref30.Planes -/
def c155 : IFn := { np := 1, rs := [.t 2, .t 3], body :=
 (.seq
  (.ops [⟨some 1, none, .box 16 (.t 0)⟩,
    ⟨some 2, none, .mv (.k (.nils))⟩,
    ⟨some 3, none, .mv (.k (.int .i64 0))⟩])
  (.seq
   (.draw [0, 1, 3, 0, 8, 0, 32, 0, 128, 391, 0, 1024, 0, 4096, 16383, 32767] [[1], [9], [10], [1], [12], [1], [14], [1], [16], [17], [1], [19], [1], [21], [11, 13, 15, 18, 20, 22], [23]] [⟨some 9, none, .fldA 2 (.t 1)⟩,
     ⟨some 10, none, .load false 1 (.t 9)⟩,
     ⟨some 11, none, .call 159 [.t 10]⟩,
     ⟨some 12, none, .fldA 3 (.t 1)⟩,
     ⟨some 13, none, .load false 1 (.t 12)⟩,
     ⟨some 14, none, .fldA 4 (.t 1)⟩,
     ⟨some 15, none, .load false 1 (.t 14)⟩,
     ⟨some 16, none, .fldA 5 (.t 1)⟩,
     ⟨some 17, none, .load false 1 (.t 16)⟩,
     ⟨some 18, none, .call 159 [.t 17]⟩,
     ⟨some 19, none, .fldA 6 (.t 1)⟩,
     ⟨some 20, none, .load false 1 (.t 19)⟩,
     ⟨some 21, none, .fldA 7 (.t 1)⟩,
     ⟨some 22, none, .load false 1 (.t 21)⟩,
     ⟨some 23, none, .bslice 22 1 6 [.nils] [(0, .t 11), (1, .t 13), (2, .t 15), (3, .t 18), (4, .t 20), (5, .t 22)]⟩,
     ⟨some 4, none, .mv (.t 23)⟩])
   (.keep [1, 4]
    (.seq
     (.ops [⟨some 5, none, .mv (.k (.nils))⟩])
     (.seq
      (.seq
       (.ops [⟨some 6, none, .mv (.k (.int .i64 0))⟩])
       (.keep [1, 4, 5, 6]
        (.block 0
         (.loop
          (.seq
           (.seq
            (.ops [⟨some 24, none, .mv (.t 6)⟩,
              ⟨some 25, none, .bin .lss (.t 24) (.k (.int .i64 6))⟩])
            (.cond (.t 25)
             .skip
             (.exit 0)))
           (.keep [1, 4, 5, 6]
            (.seq
             (.block 1
              (.seq
               (.draw [0, 1, 0, 4, 0, 0, 48, 112, 16, 0, 784, 1808, 0, 0, 12288, 28672, 65535, 0, 262143] [[1], [28], [1], [30], [], [6], [32, 33], [34], [], [6], [36, 37], [38], [4], [6], [40, 41], [42], [29, 31, 35, 39, 43], [], [7, 44]] [⟨some 28, none, .fldA 0 (.t 1)⟩,
                 ⟨some 29, none, .load false 1 (.t 28)⟩,
                 ⟨some 30, none, .fldA 1 (.t 1)⟩,
                 ⟨some 31, none, .load false 1 (.t 30)⟩,
                 ⟨some 32, none, .call 160 []⟩,
                 ⟨some 33, none, .mv (.t 6)⟩,
                 ⟨some 34, none, .idxS 1 (.t 32) (.t 33)⟩,
                 ⟨some 35, none, .load false 1 (.t 34)⟩,
                 ⟨some 36, none, .call 161 []⟩,
                 ⟨some 37, none, .mv (.t 6)⟩,
                 ⟨some 38, none, .idxS 1 (.t 36) (.t 37)⟩,
                 ⟨some 39, none, .load false 1 (.t 38)⟩,
                 ⟨some 40, none, .mv (.t 4)⟩,
                 ⟨some 41, none, .mv (.t 6)⟩,
                 ⟨some 42, none, .idxS 1 (.t 40) (.t 41)⟩,
                 ⟨some 43, none, .load false 1 (.t 42)⟩,
                 ⟨some 44, none, .build [.int .i64 0, .int .i64 0, .int .i64 0, .str [], .nils] [(0, 1, .t 29), (1, 1, .t 31), (2, 1, .t 35), (3, 1, .t 39), (4, 1, .t 43)]⟩,
                 ⟨some 7, none, .alloc 20 [.int .i64 0, .int .i64 0, .int .i64 0, .str [], .nils]⟩,
                 ⟨none, none, .store 5 (.t 7) (.t 44)⟩])
               (.keep [1, 4, 5, 6, 7]
                (.seq
                 (.seq
                  (.ops [⟨some 45, none, .load true 5 (.t 7)⟩,
                    ⟨some 46, none, .call 162 [.t 45]⟩,
                    ⟨some 8, none, .mv (.t 46)⟩])
                  (.seq
                   (.ops [⟨some 47, none, .mv (.t 8)⟩,
                     ⟨some 48, none, .bin .neq (.t 47) (.k (.int .i64 0))⟩])
                   (.cond (.t 48)
                    (.seq
                     (.ops [⟨some 49, none, .mv (.t 8)⟩,
                       ⟨some 2, none, .mv (.k (.nils))⟩,
                       ⟨some 3, none, .mv (.t 49)⟩])
                     .ret)
                    .skip)))
                 (.keep [1, 4, 5, 6, 7]
                  (.ops [⟨some 50, none, .mv (.t 5)⟩,
                    ⟨some 51, none, .load true 5 (.t 7)⟩,
                    ⟨some 52, none, .bslice 20 5 1 [.int .i64 0, .int .i64 0, .int .i64 0, .str [], .nils] [(0, .t 51)]⟩,
                    ⟨some 53, none, .app 20 5 (.t 50) (.t 52)⟩,
                    ⟨some 5, none, .mv (.t 53)⟩]))))))
             (.keep [1, 4, 5, 6]
              (.ops [⟨some 26, none, .mv (.t 6)⟩,
                ⟨some 27, none, .bin .add (.t 26) (.k (.int .i64 1))⟩,
                ⟨some 6, none, .mv (.t 27)⟩])))))))))
      (.keep [5]
       (.seq
        (.ops [⟨some 54, none, .mv (.t 5)⟩,
          ⟨some 2, none, .mv (.t 54)⟩,
          ⟨some 3, none, .mv (.k (.int .i64 0))⟩])
        .ret))))))) }
structure N155 (R : Env) : Prop where
  o155 : R.Fn 155 c155
  n159 : N159 R
  n160 : N160 R
  n161 : N161 R
  n162 : N162 R
/-- umbra.umbraref30.Same -/
def c175 : IFn := { np := 2, rs := [.t 4], body :=
 (.seq
  (.ops [⟨some 2, none, .box 20 (.t 0)⟩,
    ⟨some 3, none, .box 20 (.t 1)⟩,
    ⟨some 4, none, .mv (.k (.bool false))⟩])
  (.seq
   (.ops [⟨some 5, none, .fldA 0 (.t 2)⟩,
     ⟨some 6, none, .load false 1 (.t 5)⟩,
     ⟨some 7, none, .fldA 0 (.t 3)⟩,
     ⟨some 8, none, .load false 1 (.t 7)⟩,
     ⟨some 9, none, .bin .eql (.t 6) (.t 8)⟩,
     ⟨some 10, none, .mv (.t 9)⟩,
     ⟨some 11, some (10, true), .fldA 1 (.t 2)⟩,
     ⟨some 12, some (10, true), .load false 1 (.t 11)⟩,
     ⟨some 13, some (10, true), .fldA 1 (.t 3)⟩,
     ⟨some 14, some (10, true), .load false 1 (.t 13)⟩,
     ⟨some 15, some (10, true), .bin .eql (.t 12) (.t 14)⟩,
     ⟨some 16, none, .pick (.t 10) (.t 15) (.k (.bool false))⟩,
     ⟨some 17, none, .mv (.t 16)⟩,
     ⟨some 18, some (17, true), .fldA 2 (.t 2)⟩,
     ⟨some 19, some (17, true), .load false 1 (.t 18)⟩,
     ⟨some 20, some (17, true), .fldA 2 (.t 3)⟩,
     ⟨some 21, some (17, true), .load false 1 (.t 20)⟩,
     ⟨some 22, some (17, true), .bin .eql (.t 19) (.t 21)⟩,
     ⟨some 23, none, .pick (.t 17) (.t 22) (.k (.bool false))⟩,
     ⟨some 24, none, .mv (.t 23)⟩,
     ⟨some 25, some (24, true), .fldA 3 (.t 2)⟩,
     ⟨some 26, some (24, true), .load false 1 (.t 25)⟩,
     ⟨some 27, some (24, true), .fldA 3 (.t 3)⟩,
     ⟨some 28, some (24, true), .load false 1 (.t 27)⟩,
     ⟨some 29, some (24, true), .bst .eql (.t 26) (.t 28)⟩,
     ⟨some 30, none, .pick (.t 24) (.t 29) (.k (.bool false))⟩,
     ⟨some 31, none, .mv (.t 30)⟩,
     ⟨some 32, some (31, true), .fldA 4 (.t 2)⟩,
     ⟨some 33, some (31, true), .load false 1 (.t 32)⟩,
     ⟨some 34, some (31, true), .fldA 4 (.t 3)⟩,
     ⟨some 35, some (31, true), .load false 1 (.t 34)⟩,
     ⟨some 36, some (31, true), .call 145 [.t 33, .t 35]⟩,
     ⟨some 37, none, .pick (.t 31) (.t 36) (.k (.bool false))⟩,
     ⟨some 4, none, .mv (.t 37)⟩])
   (.keep [4]
    .ret))) }
structure N175 (R : Env) : Prop where
  o175 : R.Fn 175 c175
  n145 : N145 R
end Go.UM

/- The resolved code of package umbraref39, function by function; numbers are those of the register, the same for all programs. -/

namespace Go.UM
open Go.AM
/-- umbra.umbraref39.at -/
def c189 : IFn := { np := 5, rs := [.t 10], body :=
 (.seq
  (.ops [⟨some 5, none, .box 20 (.t 0)⟩,
    ⟨some 10, none, .mv (.k (.int .i64 0))⟩])
  (.seq
   (.seq
    (.ops [⟨some 11, none, .mv (.t 2)⟩,
      ⟨some 12, none, .bin .lss (.t 11) (.k (.int .i64 0))⟩,
      ⟨some 13, none, .mv (.t 12)⟩,
      ⟨some 14, some (13, false), .mv (.t 3)⟩,
      ⟨some 15, some (13, false), .bin .lss (.t 14) (.k (.int .i64 0))⟩,
      ⟨some 16, none, .pick (.t 13) (.k (.bool true)) (.t 15)⟩])
    (.keep [1, 2, 3, 4, 5, 16]
     (.cond (.t 16)
      (.seq
       (.ops [⟨some 10, none, .mv (.k (.int .i64 0))⟩])
       .ret)
      .skip)))
   (.keep [1, 2, 3, 4, 5]
    (.seq
     (.ops [⟨some 17, none, .mv (.t 1)⟩,
       ⟨some 18, none, .mv (.t 3)⟩,
       ⟨some 19, none, .fldA 0 (.t 5)⟩,
       ⟨some 20, none, .load false 1 (.t 19)⟩,
       ⟨some 21, none, .bin .mul (.t 18) (.t 20)⟩,
       ⟨some 22, none, .mv (.t 2)⟩,
       ⟨some 23, none, .bin .add (.t 21) (.t 22)⟩,
       ⟨some 24, none, .fldA 2 (.t 5)⟩,
       ⟨some 25, none, .load false 1 (.t 24)⟩,
       ⟨some 26, none, .bin .mul (.t 23) (.t 25)⟩,
       ⟨some 27, none, .mv (.t 4)⟩,
       ⟨some 28, none, .bin .add (.t 26) (.t 27)⟩,
       ⟨some 29, none, .idxS 1 (.t 17) (.t 28)⟩,
       ⟨some 30, none, .load false 1 (.t 29)⟩,
       ⟨some 10, none, .mv (.t 30)⟩])
     (.keep [10]
      .ret))))) }
structure N189 (R : Env) : Prop where
  o189 : R.Fn 189 c189
/-- umbra.umbraref39.expected -/
def c183 : IFn := { np := 3, rs := [.t 6], body :=
 (.seq
  (.ops [⟨some 3, none, .box 20 (.t 0)⟩,
    ⟨some 6, none, .mv (.k (.int .i64 0))⟩])
  (.seq
   (.ops [⟨some 10, none, .mv (.t 2)⟩,
     ⟨some 11, none, .fldA 2 (.t 3)⟩,
     ⟨some 12, none, .load false 1 (.t 11)⟩,
     ⟨some 13, none, .bin .rem (.t 10) (.t 12)⟩,
     ⟨some 7, none, .mv (.t 13)⟩])
   (.keep [1, 2, 3, 7]
    (.seq
     (.draw [0, 0, 2, 7, 0, 16, 63, 127] [[2], [3], [15], [14, 16], [3], [18], [17, 19], [20]] [⟨some 14, none, .mv (.t 2)⟩,
       ⟨some 15, none, .fldA 2 (.t 3)⟩,
       ⟨some 16, none, .load false 1 (.t 15)⟩,
       ⟨some 17, none, .bin .quo (.t 14) (.t 16)⟩,
       ⟨some 18, none, .fldA 0 (.t 3)⟩,
       ⟨some 19, none, .load false 1 (.t 18)⟩,
       ⟨some 20, none, .bin .rem (.t 17) (.t 19)⟩,
       ⟨some 8, none, .mv (.t 20)⟩])
     (.keep [1, 2, 3, 7, 8]
      (.seq
       (.draw [0, 0, 2, 7, 0, 16, 63, 127] [[2], [3], [22], [21, 23], [3], [25], [24, 26], [27]] [⟨some 21, none, .mv (.t 2)⟩,
         ⟨some 22, none, .fldA 2 (.t 3)⟩,
         ⟨some 23, none, .load false 1 (.t 22)⟩,
         ⟨some 24, none, .bin .quo (.t 21) (.t 23)⟩,
         ⟨some 25, none, .fldA 0 (.t 3)⟩,
         ⟨some 26, none, .load false 1 (.t 25)⟩,
         ⟨some 27, none, .bin .quo (.t 24) (.t 26)⟩,
         ⟨some 9, none, .mv (.t 27)⟩])
       (.keep [1, 3, 7, 8, 9]
        (.seq
         (.seq
          (.ops [⟨some 28, none, .mv (.t 8)⟩,
            ⟨some 29, none, .bin .eql (.t 28) (.k (.int .i64 0))⟩,
            ⟨some 30, none, .mv (.t 29)⟩,
            ⟨some 31, some (30, true), .mv (.t 9)⟩,
            ⟨some 32, some (30, true), .bin .eql (.t 31) (.k (.int .i64 0))⟩,
            ⟨some 33, none, .pick (.t 30) (.t 32) (.k (.bool false))⟩])
          (.keep [1, 3, 7, 8, 9, 33]
           (.cond (.t 33)
            (.seq
             (.ops [⟨some 6, none, .mv (.k (.int .i64 0))⟩])
             .ret)
            .skip)))
         (.keep [1, 3, 7, 8, 9]
          (.seq
           (.seq
            (.ops [⟨some 34, none, .mv (.t 9)⟩,
              ⟨some 35, none, .bin .eql (.t 34) (.k (.int .i64 0))⟩])
            (.cond (.t 35)
             (.seq
              (.ops [⟨some 36, none, .load true 5 (.t 3)⟩,
                ⟨some 37, none, .mv (.t 1)⟩,
                ⟨some 38, none, .mv (.t 8)⟩,
                ⟨some 39, none, .bin .sub (.t 38) (.k (.int .i64 1))⟩,
                ⟨some 40, none, .mv (.t 9)⟩,
                ⟨some 41, none, .mv (.t 7)⟩,
                ⟨some 42, none, .call 189 [.t 36, .t 37, .t 39, .t 40, .t 41]⟩,
                ⟨some 6, none, .mv (.t 42)⟩])
              (.keep [6]
               .ret))
             .skip))
           (.keep [1, 3, 7, 8, 9]
            (.seq
             (.seq
              (.ops [⟨some 43, none, .mv (.t 8)⟩,
                ⟨some 44, none, .bin .eql (.t 43) (.k (.int .i64 0))⟩])
              (.cond (.t 44)
               (.seq
                (.ops [⟨some 45, none, .load true 5 (.t 3)⟩,
                  ⟨some 46, none, .mv (.t 1)⟩,
                  ⟨some 47, none, .mv (.t 8)⟩,
                  ⟨some 48, none, .mv (.t 9)⟩,
                  ⟨some 49, none, .bin .sub (.t 48) (.k (.int .i64 1))⟩,
                  ⟨some 50, none, .mv (.t 7)⟩,
                  ⟨some 51, none, .call 189 [.t 45, .t 46, .t 47, .t 49, .t 50]⟩,
                  ⟨some 6, none, .mv (.t 51)⟩])
                (.keep [6]
                 .ret))
               .skip))
             (.keep [1, 3, 7, 8, 9]
              (.seq
               (.draw [0, 0, 0, 4, 0, 0, 63, 0, 0, 0, 0, 1024, 0, 8191, 16383, 0, 0, 0, 131072, 0, 524288, 0, 4177919, 8388607, 16777215] [[3], [1], [8], [54], [9], [7], [52, 53, 55, 56, 57], [3], [1], [8], [9], [62], [7], [59, 60, 61, 63, 64], [58, 65], [3], [1], [8], [69], [9], [71], [7], [67, 68, 70, 72, 73], [66, 74], [75]] [⟨some 52, none, .load true 5 (.t 3)⟩,
                 ⟨some 53, none, .mv (.t 1)⟩,
                 ⟨some 54, none, .mv (.t 8)⟩,
                 ⟨some 55, none, .bin .sub (.t 54) (.k (.int .i64 1))⟩,
                 ⟨some 56, none, .mv (.t 9)⟩,
                 ⟨some 57, none, .mv (.t 7)⟩,
                 ⟨some 58, none, .call 189 [.t 52, .t 53, .t 55, .t 56, .t 57]⟩,
                 ⟨some 59, none, .load true 5 (.t 3)⟩,
                 ⟨some 60, none, .mv (.t 1)⟩,
                 ⟨some 61, none, .mv (.t 8)⟩,
                 ⟨some 62, none, .mv (.t 9)⟩,
                 ⟨some 63, none, .bin .sub (.t 62) (.k (.int .i64 1))⟩,
                 ⟨some 64, none, .mv (.t 7)⟩,
                 ⟨some 65, none, .call 189 [.t 59, .t 60, .t 61, .t 63, .t 64]⟩,
                 ⟨some 66, none, .bin .add (.t 58) (.t 65)⟩,
                 ⟨some 67, none, .load true 5 (.t 3)⟩,
                 ⟨some 68, none, .mv (.t 1)⟩,
                 ⟨some 69, none, .mv (.t 8)⟩,
                 ⟨some 70, none, .bin .sub (.t 69) (.k (.int .i64 1))⟩,
                 ⟨some 71, none, .mv (.t 9)⟩,
                 ⟨some 72, none, .bin .sub (.t 71) (.k (.int .i64 1))⟩,
                 ⟨some 73, none, .mv (.t 7)⟩,
                 ⟨some 74, none, .call 189 [.t 67, .t 68, .t 70, .t 72, .t 73]⟩,
                 ⟨some 75, none, .bin .sub (.t 66) (.t 74)⟩,
                 ⟨some 6, none, .mv (.t 75)⟩])
               (.keep [6]
                .ret))))))))))))))) }
structure N183 (R : Env) : Prop where
  o183 : R.Fn 183 c183
  n189 : N189 R
/-- umbra.umbraref39.modulo -/
def c184 : IFn := { np := 1, rs := [.t 2], body :=
 (.seq
  (.ops [⟨some 2, none, .mv (.k (.int .i64 0))⟩])
  (.seq
   (.ops [⟨some 3, none, .mv (.t 0)⟩,
     ⟨some 4, none, .bin .rem (.t 3) (.k (.int .i64 65536))⟩,
     ⟨some 0, none, .mv (.t 4)⟩])
   (.seq
    (.seq
     (.ops [⟨some 5, none, .mv (.t 0)⟩,
       ⟨some 6, none, .bin .lss (.t 5) (.k (.int .i64 0))⟩])
     (.cond (.t 6)
      (.ops [⟨some 7, none, .mv (.t 0)⟩,
        ⟨some 8, none, .bin .add (.t 7) (.k (.int .i64 65536))⟩,
        ⟨some 0, none, .mv (.t 8)⟩])
      .skip))
    (.keep [0]
     (.seq
      (.ops [⟨some 9, none, .mv (.t 0)⟩,
        ⟨some 2, none, .mv (.t 9)⟩])
      .ret))))) }
structure N184 (R : Env) : Prop where
  o184 : R.Fn 184 c184
/-- umbra.umbraref39.Deltas -/
def c172 : IFn := { np := 1, rs := [.t 2, .t 3], body :=
 (.seq
  (.ops [⟨some 1, none, .box 20 (.t 0)⟩,
    ⟨some 2, none, .mv (.k (.nils))⟩,
    ⟨some 3, none, .mv (.k (.int .i64 0))⟩])
  (.seq
   (.seq
    (.ops [⟨some 8, none, .load true 5 (.t 1)⟩,
      ⟨some 9, none, .call 162 [.t 8]⟩,
      ⟨some 4, none, .mv (.t 9)⟩])
    (.seq
     (.ops [⟨some 10, none, .mv (.t 4)⟩,
       ⟨some 11, none, .bin .neq (.t 10) (.k (.int .i64 0))⟩])
     (.cond (.t 11)
      (.seq
       (.ops [⟨some 12, none, .mv (.t 4)⟩,
         ⟨some 2, none, .mv (.k (.nils))⟩,
         ⟨some 3, none, .mv (.t 12)⟩])
       .ret)
      .skip)))
   (.keep [1]
    (.seq
     (.ops [⟨some 5, none, .mv (.k (.nils))⟩])
     (.seq
      (.seq
       (.ops [⟨some 6, none, .mv (.k (.int .i64 0))⟩])
       (.keep [1, 5, 6]
        (.block 0
         (.loop
          (.seq
           (.seq
            (.ops [⟨some 13, none, .mv (.t 6)⟩,
              ⟨some 14, none, .fldA 4 (.t 1)⟩,
              ⟨some 15, none, .load false 1 (.t 14)⟩,
              ⟨some 16, none, .lenS (.t 15)⟩,
              ⟨some 17, none, .bin .lss (.t 13) (.t 16)⟩])
            (.keep [1, 5, 6, 17]
             (.cond (.t 17)
              .skip
              (.exit 0))))
           (.keep [1, 5, 6]
            (.seq
             (.block 1
              (.seq
               (.draw [0, 1, 0, 7, 15, 0, 0, 64, 0, 480, 1023, 2047, 4095] [[1], [20], [6], [21, 22], [23], [1], [1], [26], [6], [25, 27, 28], [24, 29], [30], [31]] [⟨some 20, none, .fldA 4 (.t 1)⟩,
                 ⟨some 21, none, .load false 1 (.t 20)⟩,
                 ⟨some 22, none, .mv (.t 6)⟩,
                 ⟨some 23, none, .idxS 1 (.t 21) (.t 22)⟩,
                 ⟨some 24, none, .load false 1 (.t 23)⟩,
                 ⟨some 25, none, .load true 5 (.t 1)⟩,
                 ⟨some 26, none, .fldA 4 (.t 1)⟩,
                 ⟨some 27, none, .load false 1 (.t 26)⟩,
                 ⟨some 28, none, .mv (.t 6)⟩,
                 ⟨some 29, none, .call 183 [.t 25, .t 27, .t 28]⟩,
                 ⟨some 30, none, .bin .sub (.t 24) (.t 29)⟩,
                 ⟨some 31, none, .call 184 [.t 30]⟩,
                 ⟨some 7, none, .mv (.t 31)⟩])
               (.keep [1, 5, 6, 7]
                (.seq
                 (.seq
                  (.ops [⟨some 32, none, .mv (.t 7)⟩,
                    ⟨some 33, none, .bin .gtr (.t 32) (.k (.int .i64 32767))⟩])
                  (.cond (.t 33)
                   (.ops [⟨some 34, none, .mv (.t 7)⟩,
                     ⟨some 35, none, .bin .sub (.t 34) (.k (.int .i64 65536))⟩,
                     ⟨some 7, none, .mv (.t 35)⟩])
                   .skip))
                 (.keep [1, 5, 6, 7]
                  (.ops [⟨some 36, none, .mv (.t 5)⟩,
                    ⟨some 37, none, .mv (.t 7)⟩,
                    ⟨some 38, none, .bslice 10 1 1 [.int .i64 0] [(0, .t 37)]⟩,
                    ⟨some 39, none, .app 10 1 (.t 36) (.t 38)⟩,
                    ⟨some 5, none, .mv (.t 39)⟩]))))))
             (.keep [1, 5, 6]
              (.ops [⟨some 18, none, .mv (.t 6)⟩,
                ⟨some 19, none, .bin .add (.t 18) (.k (.int .i64 1))⟩,
                ⟨some 6, none, .mv (.t 19)⟩])))))))))
      (.keep [5]
       (.seq
        (.ops [⟨some 40, none, .mv (.t 5)⟩,
          ⟨some 2, none, .mv (.t 40)⟩,
          ⟨some 3, none, .mv (.k (.int .i64 0))⟩])
        .ret))))))) }
structure N172 (R : Env) : Prop where
  o172 : R.Fn 172 c172
  n162 : N162 R
  n183 : N183 R
  n184 : N184 R
/-- umbra.umbraref39.Whole -/
def c174 : IFn := { np := 2, rs := [.cell 4 true 5, .t 5], body :=
 (.seq
  (.ops [⟨some 2, none, .box 20 (.t 0)⟩,
    ⟨some 4, none, .alloc 20 [.int .i64 0, .int .i64 0, .int .i64 0, .str [], .nils]⟩,
    ⟨some 5, none, .mv (.k (.int .i64 0))⟩])
  (.seq
   (.seq
    (.ops [⟨some 9, none, .fldA 0 (.t 2)⟩,
      ⟨some 10, none, .load false 1 (.t 9)⟩,
      ⟨some 11, none, .bin .lss (.t 10) (.k (.int .i64 1))⟩,
      ⟨some 12, none, .mv (.t 11)⟩,
      ⟨some 13, some (12, false), .fldA 0 (.t 2)⟩,
      ⟨some 14, some (12, false), .load false 1 (.t 13)⟩,
      ⟨some 15, some (12, false), .bin .gtr (.t 14) (.k (.int .i64 64))⟩,
      ⟨some 16, none, .pick (.t 12) (.k (.bool true)) (.t 15)⟩,
      ⟨some 17, none, .mv (.t 16)⟩,
      ⟨some 18, some (17, false), .fldA 1 (.t 2)⟩,
      ⟨some 19, some (17, false), .load false 1 (.t 18)⟩,
      ⟨some 20, some (17, false), .bin .lss (.t 19) (.k (.int .i64 1))⟩,
      ⟨some 21, none, .pick (.t 17) (.k (.bool true)) (.t 20)⟩,
      ⟨some 22, none, .mv (.t 21)⟩,
      ⟨some 23, some (22, false), .fldA 1 (.t 2)⟩,
      ⟨some 24, some (22, false), .load false 1 (.t 23)⟩,
      ⟨some 25, some (22, false), .bin .gtr (.t 24) (.k (.int .i64 64))⟩,
      ⟨some 26, none, .pick (.t 22) (.k (.bool true)) (.t 25)⟩,
      ⟨some 27, none, .mv (.t 26)⟩,
      ⟨some 28, some (27, false), .fldA 2 (.t 2)⟩,
      ⟨some 29, some (27, false), .load false 1 (.t 28)⟩,
      ⟨some 30, some (27, false), .bin .lss (.t 29) (.k (.int .i64 1))⟩,
      ⟨some 31, none, .pick (.t 27) (.k (.bool true)) (.t 30)⟩,
      ⟨some 32, none, .mv (.t 31)⟩,
      ⟨some 33, some (32, false), .fldA 2 (.t 2)⟩,
      ⟨some 34, some (32, false), .load false 1 (.t 33)⟩,
      ⟨some 35, some (32, false), .bin .gtr (.t 34) (.k (.int .i64 4))⟩,
      ⟨some 36, none, .pick (.t 32) (.k (.bool true)) (.t 35)⟩,
      ⟨some 37, none, .mv (.t 36)⟩,
      ⟨some 38, some (37, false), .mv (.t 1)⟩,
      ⟨some 39, some (37, false), .lenS (.t 38)⟩,
      ⟨some 40, some (37, false), .fldA 0 (.t 2)⟩,
      ⟨some 41, some (37, false), .load false 1 (.t 40)⟩,
      ⟨some 42, some (37, false), .fldA 1 (.t 2)⟩,
      ⟨some 43, some (37, false), .load false 1 (.t 42)⟩,
      ⟨some 44, some (37, false), .bin .mul (.t 41) (.t 43)⟩,
      ⟨some 45, some (37, false), .fldA 2 (.t 2)⟩,
      ⟨some 46, some (37, false), .load false 1 (.t 45)⟩,
      ⟨some 47, some (37, false), .bin .mul (.t 44) (.t 46)⟩,
      ⟨some 48, some (37, false), .bin .neq (.t 39) (.t 47)⟩,
      ⟨some 49, none, .pick (.t 37) (.k (.bool true)) (.t 48)⟩])
    (.keep [1, 2, 4, 49]
     (.cond (.t 49)
      (.seq
       (.ops [⟨some 50, none, .build [.int .i64 0, .int .i64 0, .int .i64 0, .str [], .nils] []⟩,
         ⟨none, none, .store 5 (.t 4) (.t 50)⟩,
         ⟨some 5, none, .mv (.k (.int .i64 5))⟩])
       .ret)
      .skip)))
   (.keep [1, 2, 4]
    (.seq
     (.ops [⟨some 51, none, .fldA 0 (.t 2)⟩,
       ⟨some 52, none, .load false 1 (.t 51)⟩,
       ⟨some 53, none, .fldA 1 (.t 2)⟩,
       ⟨some 54, none, .load false 1 (.t 53)⟩,
       ⟨some 55, none, .fldA 2 (.t 2)⟩,
       ⟨some 56, none, .load false 1 (.t 55)⟩,
       ⟨some 57, none, .fldA 3 (.t 2)⟩,
       ⟨some 58, none, .load false 1 (.t 57)⟩,
       ⟨some 59, none, .build [.int .i64 0, .int .i64 0, .int .i64 0, .str [], .nils] [(0, 1, .t 52), (1, 1, .t 54), (2, 1, .t 56), (3, 1, .t 58)]⟩,
       ⟨some 6, none, .alloc 20 [.int .i64 0, .int .i64 0, .int .i64 0, .str [], .nils]⟩,
       ⟨none, none, .store 5 (.t 6) (.t 59)⟩])
     (.keep [1, 4, 6]
      (.seq
       (.seq
        (.ops [⟨some 7, none, .mv (.k (.int .i64 0))⟩])
        (.keep [1, 4, 6, 7]
         (.block 0
          (.loop
           (.seq
            (.seq
             (.ops [⟨some 60, none, .mv (.t 7)⟩,
               ⟨some 61, none, .mv (.t 1)⟩,
               ⟨some 62, none, .lenS (.t 61)⟩,
               ⟨some 63, none, .bin .lss (.t 60) (.t 62)⟩])
             (.cond (.t 63)
              .skip
              (.exit 0)))
            (.keep [1, 4, 6, 7]
             (.seq
              (.block 1
               (.seq
                (.seq
                 (.ops [⟨some 66, none, .mv (.t 1)⟩,
                   ⟨some 67, none, .mv (.t 7)⟩,
                   ⟨some 68, none, .idxS 1 (.t 66) (.t 67)⟩,
                   ⟨some 69, none, .load false 1 (.t 68)⟩,
                   ⟨some 70, none, .bin .lss (.t 69) (.k (.int .i64 (-32768)))⟩,
                   ⟨some 71, none, .mv (.t 70)⟩,
                   ⟨some 72, some (71, false), .mv (.t 1)⟩,
                   ⟨some 73, some (71, false), .mv (.t 7)⟩,
                   ⟨some 74, some (71, false), .idxS 1 (.t 72) (.t 73)⟩,
                   ⟨some 75, some (71, false), .load false 1 (.t 74)⟩,
                   ⟨some 76, some (71, false), .bin .gtr (.t 75) (.k (.int .i64 32767))⟩,
                   ⟨some 77, none, .pick (.t 71) (.k (.bool true)) (.t 76)⟩])
                 (.keep [1, 4, 6, 7, 77]
                  (.cond (.t 77)
                   (.seq
                    (.ops [⟨some 78, none, .build [.int .i64 0, .int .i64 0, .int .i64 0, .str [], .nils] []⟩,
                      ⟨none, none, .store 5 (.t 4) (.t 78)⟩,
                      ⟨some 5, none, .mv (.k (.int .i64 5))⟩])
                    .ret)
                   .skip)))
                (.keep [1, 4, 6, 7]
                 (.draw [0, 1, 0, 0, 8, 0, 60, 0, 0, 384, 896, 2044, 4092, 8188, 16383, 32767, 65535] [[6], [79], [6], [6], [82], [7], [81, 83, 84], [1], [7], [86, 87], [88], [85, 89], [90], [91], [80, 92], [6], [94, 93]] [⟨some 79, none, .fldA 4 (.t 6)⟩,
                   ⟨some 80, none, .load false 1 (.t 79)⟩,
                   ⟨some 81, none, .load true 5 (.t 6)⟩,
                   ⟨some 82, none, .fldA 4 (.t 6)⟩,
                   ⟨some 83, none, .load false 1 (.t 82)⟩,
                   ⟨some 84, none, .mv (.t 7)⟩,
                   ⟨some 85, none, .call 183 [.t 81, .t 83, .t 84]⟩,
                   ⟨some 86, none, .mv (.t 1)⟩,
                   ⟨some 87, none, .mv (.t 7)⟩,
                   ⟨some 88, none, .idxS 1 (.t 86) (.t 87)⟩,
                   ⟨some 89, none, .load false 1 (.t 88)⟩,
                   ⟨some 90, none, .bin .add (.t 85) (.t 89)⟩,
                   ⟨some 91, none, .call 184 [.t 90]⟩,
                   ⟨some 92, none, .bslice 10 1 1 [.int .i64 0] [(0, .t 91)]⟩,
                   ⟨some 93, none, .app 10 1 (.t 80) (.t 92)⟩,
                   ⟨some 94, none, .fldA 4 (.t 6)⟩,
                   ⟨none, none, .store 1 (.t 94) (.t 93)⟩]))))
              (.keep [1, 4, 6, 7]
               (.ops [⟨some 64, none, .mv (.t 7)⟩,
                 ⟨some 65, none, .bin .add (.t 64) (.k (.int .i64 1))⟩,
                 ⟨some 7, none, .mv (.t 65)⟩])))))))))
       (.keep [4, 6]
        (.seq
         (.seq
          (.ops [⟨some 95, none, .load true 5 (.t 6)⟩,
            ⟨some 96, none, .call 162 [.t 95]⟩,
            ⟨some 8, none, .mv (.t 96)⟩])
          (.seq
           (.ops [⟨some 97, none, .mv (.t 8)⟩,
             ⟨some 98, none, .bin .neq (.t 97) (.k (.int .i64 0))⟩])
           (.cond (.t 98)
            (.seq
             (.ops [⟨some 99, none, .build [.int .i64 0, .int .i64 0, .int .i64 0, .str [], .nils] []⟩,
               ⟨some 100, none, .mv (.t 8)⟩,
               ⟨none, none, .store 5 (.t 4) (.t 99)⟩,
               ⟨some 5, none, .mv (.t 100)⟩])
             .ret)
            .skip)))
         (.keep [4, 6]
          (.seq
           (.ops [⟨some 101, none, .load true 5 (.t 6)⟩,
             ⟨none, none, .store 5 (.t 4) (.t 101)⟩,
             ⟨some 5, none, .mv (.k (.int .i64 0))⟩])
           .ret)))))))))) }
structure N174 (R : Env) : Prop where
  o174 : R.Fn 174 c174
  n162 : N162 R
  n183 : N183 R
  n184 : N184 R
/-- umbra.umbraref39.Zig -/
def c176 : IFn := { np := 1, rs := [.t 2], body :=
 (.seq
  (.ops [⟨some 2, none, .mv (.k (.int .i64 0))⟩])
  (.seq
   (.seq
    (.ops [⟨some 3, none, .mv (.t 0)⟩,
      ⟨some 4, none, .bin .geq (.t 3) (.k (.int .i64 0))⟩])
    (.cond (.t 4)
     (.seq
      (.ops [⟨some 5, none, .mv (.t 0)⟩,
        ⟨some 6, none, .mv (.t 0)⟩,
        ⟨some 7, none, .bin .add (.t 5) (.t 6)⟩,
        ⟨some 2, none, .mv (.t 7)⟩])
      .ret)
     .skip))
   (.keep [0]
    (.seq
     (.ops [⟨some 8, none, .mv (.t 0)⟩,
       ⟨some 9, none, .un .neg (.t 8)⟩,
       ⟨some 10, none, .mv (.t 0)⟩,
       ⟨some 11, none, .bin .sub (.t 9) (.t 10)⟩,
       ⟨some 12, none, .bin .sub (.t 11) (.k (.int .i64 1))⟩,
       ⟨some 2, none, .mv (.t 12)⟩])
     (.keep [2]
      .ret))))) }
structure N176 (R : Env) : Prop where
  o176 : R.Fn 176 c176
/-- umbra.umbraref39.Zag -/
def c177 : IFn := { np := 1, rs := [.t 2], body :=
 (.seq
  (.ops [⟨some 2, none, .mv (.k (.int .i64 0))⟩])
  (.seq
   (.seq
    (.ops [⟨some 3, none, .mv (.t 0)⟩,
      ⟨some 4, none, .bin .lss (.t 3) (.k (.int .i64 0))⟩])
    (.cond (.t 4)
     (.seq
      (.ops [⟨some 2, none, .mv (.k (.int .i64 0))⟩])
      .ret)
     .skip))
   (.keep [0]
    (.seq
     (.seq
      (.ops [⟨some 5, none, .mv (.t 0)⟩,
        ⟨some 6, none, .bin .rem (.t 5) (.k (.int .i64 2))⟩,
        ⟨some 7, none, .bin .eql (.t 6) (.k (.int .i64 0))⟩])
      (.cond (.t 7)
       (.seq
        (.ops [⟨some 8, none, .mv (.t 0)⟩,
          ⟨some 9, none, .bin .quo (.t 8) (.k (.int .i64 2))⟩,
          ⟨some 2, none, .mv (.t 9)⟩])
        .ret)
       .skip))
     (.keep [0]
      (.seq
       (.ops [⟨some 10, none, .mv (.t 0)⟩,
         ⟨some 11, none, .bin .quo (.t 10) (.k (.int .i64 2))⟩,
         ⟨some 12, none, .un .neg (.t 11)⟩,
         ⟨some 13, none, .bin .sub (.t 12) (.k (.int .i64 1))⟩,
         ⟨some 2, none, .mv (.t 13)⟩])
       (.keep [2]
        .ret))))))) }
structure N177 (R : Env) : Prop where
  o177 : R.Fn 177 c177
end Go.UM

/- The resolved code of package umbralaw39, function by function; numbers are those of the register, the same for all programs. -/





namespace Go.UM
open Go.AM
/-- umbra.umbralaw39.works -/
def c166 : IFn := { np := 0, rs := [.t 0], body :=
 (.seq
  (.ops [⟨some 0, none, .mv (.k (.bool false))⟩])
  (.seq
   (.ops [⟨some 4, none, .build [.int .i64 0, .int .i64 0, .int .i64 0, .str [], .nils] [(0, 1, .k (.int .i64 10)), (1, 1, .k (.int .i64 10)), (2, 1, .k (.int .i64 1)), (3, 1, .k (.str [65]))]⟩,
     ⟨some 1, none, .alloc 20 [.int .i64 0, .int .i64 0, .int .i64 0, .str [], .nils]⟩,
     ⟨none, none, .store 5 (.t 1) (.t 4)⟩])
   (.seq
    (.seq
     (.ops [⟨some 5, none, .mv (.k (.int .i64 0))⟩])
     (.keep [1, 5]
      (.block 0
       (.loop
        (.seq
         (.ops [⟨some 6, none, .bin .lss (.t 5) (.k (.int .i64 100))⟩])
         (.seq
          (.cond (.t 6)
           .skip
           (.exit 0))
          (.keep [1, 5]
           (.seq
            (.block 1
             (.ops [⟨some 7, none, .fldA 4 (.t 1)⟩,
               ⟨some 8, none, .load false 1 (.t 7)⟩,
               ⟨some 9, none, .bslice 10 1 1 [.int .i64 0] [(0, .k (.int .i64 3))]⟩,
               ⟨some 10, none, .app 10 1 (.t 8) (.t 9)⟩,
               ⟨some 11, none, .fldA 4 (.t 1)⟩,
               ⟨none, none, .store 1 (.t 11) (.t 10)⟩]))
            (.keep [1, 5]
             (.ops [⟨some 12, none, .bin .add (.t 5) (.k (.int .i64 1))⟩,
               ⟨some 5, none, .mv (.t 12)⟩]))))))))))
    (.keep [1]
     (.seq
      (.ops [⟨some 14, none, .load true 5 (.t 1)⟩,
        ⟨some 15, none, .call 164 [.t 14]⟩,
        ⟨some 13, none, .mv (.t 15)⟩,
        ⟨some 16, none, .ext (.t 13) 0⟩,
        ⟨some 17, none, .ext (.t 13) 1⟩,
        ⟨some 2, none, .mv (.t 16)⟩,
        ⟨some 3, none, .mv (.t 17)⟩])
      (.keep [2, 3]
       (.seq
        (.ops [⟨some 18, none, .mv (.t 3)⟩,
          ⟨some 19, none, .bin .eql (.t 18) (.k (.int .i64 0))⟩,
          ⟨some 20, none, .mv (.t 19)⟩,
          ⟨some 21, some (20, true), .mv (.t 2)⟩,
          ⟨some 22, some (20, true), .bslice 4 1 8 [.int .u8 0] [(0, .k (.int .u8 10)), (1, .k (.int .u8 10)), (2, .k (.int .u8 1)), (3, .k (.int .u8 1)), (4, .k (.int .u8 65)), (5, .k (.int .u8 6)), (6, .k (.int .u8 0)), (7, .k (.int .u8 98))]⟩,
          ⟨some 23, some (20, true), .call 47 [.t 21, .t 22]⟩,
          ⟨some 24, none, .pick (.t 20) (.t 23) (.k (.bool false))⟩,
          ⟨some 0, none, .mv (.t 24)⟩])
        (.keep [0]
         .ret)))))))) }
structure N166 (R : Env) : Prop where
  o166 : R.Fn 166 c166
  n47 : N47 R
  n164 : N164 R
/-- umbra.umbralaw39.PackFlat -/
def c163 : IFn := { np := 3, rs := [.t 6], body :=
 (.seq
  (.ops [⟨some 5, none, .box 24 (.t 2)⟩,
    ⟨some 6, none, .mv (.k (.bool false))⟩])
  (.seq
   (.ops [⟨some 16, none, .mv (.t 0)⟩,
     ⟨some 17, none, .bin .rem (.t 16) (.k (.int .u8 64))⟩,
     ⟨some 18, none, .conv .i64 (.t 17)⟩,
     ⟨some 19, none, .bin .add (.t 18) (.k (.int .i64 1))⟩,
     ⟨some 20, none, .mv (.t 1)⟩,
     ⟨some 21, none, .bin .rem (.t 20) (.k (.int .u8 64))⟩,
     ⟨some 22, none, .conv .i64 (.t 21)⟩,
     ⟨some 23, none, .bin .add (.t 22) (.k (.int .i64 1))⟩,
     ⟨some 24, none, .build [.int .i64 0, .int .i64 0, .int .i64 0, .str [], .nils] [(0, 1, .t 19), (1, 1, .t 23), (2, 1, .k (.int .i64 1)), (3, 1, .k (.str [65]))]⟩,
     ⟨some 7, none, .alloc 20 [.int .i64 0, .int .i64 0, .int .i64 0, .str [], .nils]⟩,
     ⟨none, none, .store 5 (.t 7) (.t 24)⟩])
   (.keep [5, 7]
    (.seq
     (.ops [⟨some 25, none, .load true 5 (.t 7)⟩,
       ⟨some 8, none, .alloc 20 [.int .i64 0, .int .i64 0, .int .i64 0, .str [], .nils]⟩,
       ⟨none, none, .store 5 (.t 8) (.t 25)⟩])
     (.seq
      (.seq
       (.ops [⟨some 26, none, .fldA 0 (.t 7)⟩,
         ⟨some 27, none, .load false 1 (.t 26)⟩,
         ⟨some 28, none, .fldA 1 (.t 7)⟩,
         ⟨some 29, none, .load false 1 (.t 28)⟩,
         ⟨some 30, none, .bin .mul (.t 27) (.t 29)⟩,
         ⟨some 31, none, .mv (.k (.int .i64 0))⟩])
       (.keep [5, 7, 8, 30, 31]
        (.block 0
         (.loop
          (.seq
           (.ops [⟨some 32, none, .bin .lss (.t 31) (.t 30)⟩])
           (.seq
            (.cond (.t 32)
             .skip
             (.exit 0))
            (.keep [5, 7, 8, 30, 31]
             (.seq
              (.block 1
               (.seq
                (.ops [⟨some 33, none, .mv (.t 31)⟩,
                  ⟨some 9, none, .mv (.t 33)⟩])
                (.seq
                 (.ops [⟨some 34, none, .fldA 4 (.t 7)⟩,
                   ⟨some 35, none, .load false 1 (.t 34)⟩,
                   ⟨some 36, none, .idxA 3 1 (.t 5) (.k (.int .i64 0))⟩,
                   ⟨some 37, none, .load false 1 (.t 36)⟩,
                   ⟨some 38, none, .conv .i64 (.t 37)⟩,
                   ⟨some 39, none, .bslice 10 1 1 [.int .i64 0] [(0, .t 38)]⟩,
                   ⟨some 40, none, .app 10 1 (.t 35) (.t 39)⟩,
                   ⟨some 41, none, .fldA 4 (.t 7)⟩,
                   ⟨none, none, .store 1 (.t 41) (.t 40)⟩])
                 (.keep [5, 7, 8, 9, 30, 31]
                  (.draw [0, 1, 0, 4, 12, 0, 0, 64, 224, 0, 512, 1536, 4064, 8188, 0, 0, 32768, 114688, 0, 262144, 786432, 2080768, 4194300, 8388604, 16777212, 33554431, 67108863, 134217727] [[8], [42], [5], [44], [45], [9], [7], [48], [47, 49], [5], [51], [52], [50, 53], [46, 54], [9], [7], [57], [56, 58], [5], [60], [61], [59, 62], [55, 63], [64], [65], [43, 66], [8], [68, 67]] [⟨some 42, none, .fldA 4 (.t 8)⟩,
                    ⟨some 43, none, .load false 1 (.t 42)⟩,
                    ⟨some 44, none, .idxA 3 1 (.t 5) (.k (.int .i64 0))⟩,
                    ⟨some 45, none, .load false 1 (.t 44)⟩,
                    ⟨some 46, none, .conv .i64 (.t 45)⟩,
                    ⟨some 47, none, .mv (.t 9)⟩,
                    ⟨some 48, none, .fldA 0 (.t 7)⟩,
                    ⟨some 49, none, .load false 1 (.t 48)⟩,
                    ⟨some 50, none, .bin .rem (.t 47) (.t 49)⟩,
                    ⟨some 51, none, .idxA 3 1 (.t 5) (.k (.int .i64 1))⟩,
                    ⟨some 52, none, .load false 1 (.t 51)⟩,
                    ⟨some 53, none, .conv .i64 (.t 52)⟩,
                    ⟨some 54, none, .bin .mul (.t 50) (.t 53)⟩,
                    ⟨some 55, none, .bin .add (.t 46) (.t 54)⟩,
                    ⟨some 56, none, .mv (.t 9)⟩,
                    ⟨some 57, none, .fldA 0 (.t 7)⟩,
                    ⟨some 58, none, .load false 1 (.t 57)⟩,
                    ⟨some 59, none, .bin .quo (.t 56) (.t 58)⟩,
                    ⟨some 60, none, .idxA 3 1 (.t 5) (.k (.int .i64 2))⟩,
                    ⟨some 61, none, .load false 1 (.t 60)⟩,
                    ⟨some 62, none, .conv .i64 (.t 61)⟩,
                    ⟨some 63, none, .bin .mul (.t 59) (.t 62)⟩,
                    ⟨some 64, none, .bin .add (.t 55) (.t 63)⟩,
                    ⟨some 65, none, .bin .and (.t 64) (.k (.int .i64 65535))⟩,
                    ⟨some 66, none, .bslice 10 1 1 [.int .i64 0] [(0, .t 65)]⟩,
                    ⟨some 67, none, .app 10 1 (.t 43) (.t 66)⟩,
                    ⟨some 68, none, .fldA 4 (.t 8)⟩,
                    ⟨none, none, .store 1 (.t 68) (.t 67)⟩])))))
              (.keep [5, 7, 8, 30, 31]
               (.ops [⟨some 69, none, .bin .add (.t 31) (.k (.int .i64 1))⟩,
                 ⟨some 31, none, .mv (.t 69)⟩]))))))))))
      (.keep [7, 8]
       (.seq
        (.ops [⟨some 71, none, .load true 5 (.t 7)⟩,
          ⟨some 72, none, .call 164 [.t 71]⟩,
          ⟨some 70, none, .mv (.t 72)⟩,
          ⟨some 73, none, .ext (.t 70) 0⟩,
          ⟨some 74, none, .ext (.t 70) 1⟩,
          ⟨some 10, none, .mv (.t 73)⟩,
          ⟨some 11, none, .mv (.t 74)⟩])
        (.keep [7, 8, 10, 11]
         (.seq
          (.ops [⟨some 76, none, .load true 5 (.t 8)⟩,
            ⟨some 77, none, .call 165 [.t 76]⟩,
            ⟨some 75, none, .mv (.t 77)⟩,
            ⟨some 78, none, .ext (.t 75) 0⟩,
            ⟨some 79, none, .ext (.t 75) 1⟩,
            ⟨some 12, none, .mv (.t 78)⟩,
            ⟨some 13, none, .mv (.t 79)⟩])
          (.keep [7, 8, 10, 11, 12, 13]
           (.seq
            (.seq
             (.ops [⟨some 80, none, .mv (.t 11)⟩,
               ⟨some 81, none, .bin .neq (.t 80) (.k (.int .i64 0))⟩,
               ⟨some 82, none, .mv (.t 81)⟩,
               ⟨some 83, some (82, false), .mv (.t 13)⟩,
               ⟨some 84, some (82, false), .bin .neq (.t 83) (.k (.int .i64 0))⟩,
               ⟨some 85, none, .pick (.t 82) (.k (.bool true)) (.t 84)⟩,
               ⟨some 86, none, .mv (.t 85)⟩,
               ⟨some 87, some (86, false), .mv (.t 10)⟩,
               ⟨some 88, some (86, false), .lenS (.t 87)⟩,
               ⟨some 89, some (86, false), .bin .gtr (.t 88) (.k (.int .i64 12))⟩,
               ⟨some 90, none, .pick (.t 86) (.k (.bool true)) (.t 89)⟩,
               ⟨some 91, none, .mv (.t 90)⟩,
               ⟨some 92, some (91, false), .mv (.t 12)⟩,
               ⟨some 93, some (91, false), .lenS (.t 92)⟩,
               ⟨some 94, some (91, false), .fldA 4 (.t 8)⟩,
               ⟨some 95, some (91, false), .load false 1 (.t 94)⟩,
               ⟨some 96, some (91, false), .lenS (.t 95)⟩,
               ⟨some 97, some (91, false), .bin .neq (.t 93) (.t 96)⟩,
               ⟨some 98, none, .pick (.t 91) (.k (.bool true)) (.t 97)⟩])
             (.keep [7, 12, 98]
              (.cond (.t 98)
               (.seq
                (.ops [⟨some 6, none, .mv (.k (.bool false))⟩])
                .ret)
               .skip)))
            (.keep [7, 12]
             (.seq
              (.seq
               (.ops [⟨some 99, none, .mv (.t 12)⟩,
                 ⟨some 100, none, .lenS (.t 99)⟩,
                 ⟨some 101, none, .mv (.k (.int .i64 0))⟩])
               (.keep [7, 99, 100, 101]
                (.block 2
                 (.loop
                  (.seq
                   (.ops [⟨some 102, none, .bin .lss (.t 101) (.t 100)⟩])
                   (.seq
                    (.cond (.t 102)
                     .skip
                     (.exit 2))
                    (.keep [7, 99, 100, 101]
                     (.seq
                      (.block 3
                       (.seq
                        (.ops [⟨some 103, none, .mv (.t 101)⟩,
                          ⟨some 104, none, .idxS 1 (.t 99) (.t 101)⟩,
                          ⟨some 105, none, .load false 1 (.t 104)⟩,
                          ⟨some 14, none, .mv (.t 103)⟩,
                          ⟨some 15, none, .mv (.t 105)⟩])
                        (.keep [7, 14, 15, 99, 100, 101]
                         (.seq
                          (.ops [⟨some 106, none, .mv (.t 14)⟩,
                            ⟨some 107, none, .fldA 0 (.t 7)⟩,
                            ⟨some 108, none, .load false 1 (.t 107)⟩,
                            ⟨some 109, none, .bin .rem (.t 106) (.t 108)⟩,
                            ⟨some 110, none, .bin .gtr (.t 109) (.k (.int .i64 0))⟩,
                            ⟨some 111, none, .mv (.t 110)⟩,
                            ⟨some 112, some (111, true), .mv (.t 14)⟩,
                            ⟨some 113, some (111, true), .fldA 0 (.t 7)⟩,
                            ⟨some 114, some (111, true), .load false 1 (.t 113)⟩,
                            ⟨some 115, some (111, true), .bin .geq (.t 112) (.t 114)⟩,
                            ⟨some 116, none, .pick (.t 111) (.t 115) (.k (.bool false))⟩,
                            ⟨some 117, none, .mv (.t 116)⟩,
                            ⟨some 118, some (117, true), .mv (.t 15)⟩,
                            ⟨some 119, some (117, true), .bin .neq (.t 118) (.k (.int .i64 0))⟩,
                            ⟨some 120, none, .pick (.t 117) (.t 119) (.k (.bool false))⟩])
                          (.keep [7, 99, 100, 101, 120]
                           (.cond (.t 120)
                            (.seq
                             (.ops [⟨some 6, none, .mv (.k (.bool false))⟩])
                             .ret)
                            .skip))))))
                      (.keep [7, 99, 100, 101]
                       (.ops [⟨some 121, none, .bin .add (.t 101) (.k (.int .i64 1))⟩,
                         ⟨some 101, none, .mv (.t 121)⟩]))))))))))
              (.keep []
               (.seq
                (.ops [⟨some 122, none, .call 166 []⟩,
                  ⟨some 6, none, .mv (.t 122)⟩])
                .ret))))))))))))))) }
structure N163 (R : Env) : Prop where
  o163 : R.Fn 163 c163
  n164 : N164 R
  n165 : N165 R
  n166 : N166 R
/-- umbra.umbralaw39.PackZag -/
def c167 : IFn := { np := 1, rs := [.t 2], body :=
 (.seq
  (.ops [⟨some 2, none, .mv (.k (.bool false))⟩])
  (.seq
   (.ops [⟨some 4, none, .mv (.t 0)⟩,
     ⟨some 5, none, .conv .i64 (.t 4)⟩,
     ⟨some 3, none, .mv (.t 5)⟩])
   (.seq
    (.seq
     (.ops [⟨some 6, none, .mv (.t 3)⟩,
       ⟨some 7, none, .call 168 [.t 6]⟩,
       ⟨some 8, none, .call 169 [.t 7]⟩,
       ⟨some 9, none, .mv (.t 3)⟩,
       ⟨some 10, none, .bin .neq (.t 8) (.t 9)⟩,
       ⟨some 11, none, .mv (.t 10)⟩,
       ⟨some 12, some (11, false), .mv (.t 3)⟩,
       ⟨some 13, some (11, false), .call 168 [.t 12]⟩,
       ⟨some 14, some (11, false), .bin .lss (.t 13) (.k (.int .i64 0))⟩,
       ⟨some 15, none, .pick (.t 11) (.k (.bool true)) (.t 14)⟩])
     (.keep [3, 15]
      (.cond (.t 15)
       (.seq
        (.ops [⟨some 2, none, .mv (.k (.bool false))⟩])
        .ret)
       .skip)))
    (.keep [3]
     (.seq
      (.ops [⟨some 16, none, .mv (.t 3)⟩,
        ⟨some 17, none, .bin .lss (.t 16) (.k (.int .i64 0))⟩,
        ⟨some 18, none, .mv (.t 17)⟩,
        ⟨some 19, some (18, false), .mv (.t 3)⟩,
        ⟨some 20, some (18, false), .call 169 [.t 19]⟩,
        ⟨some 21, some (18, false), .call 168 [.t 20]⟩,
        ⟨some 22, some (18, false), .mv (.t 3)⟩,
        ⟨some 23, some (18, false), .bin .eql (.t 21) (.t 22)⟩,
        ⟨some 24, none, .pick (.t 18) (.k (.bool true)) (.t 23)⟩,
        ⟨some 25, none, .mv (.t 24)⟩,
        ⟨some 26, some (25, true), .call 166 []⟩,
        ⟨some 27, none, .pick (.t 25) (.t 26) (.k (.bool false))⟩,
        ⟨some 2, none, .mv (.t 27)⟩])
      (.keep [2]
       .ret)))))) }
structure N167 (R : Env) : Prop where
  o167 : R.Fn 167 c167
  n166 : N166 R
  n168 : N168 R
  n169 : N169 R
/-- umbra.umbralaw39.few -/
def c171 : IFn := { np := 1, rs := [.cell 2 true 5], body :=
 (.seq
  (.ops [⟨some 1, none, .box 20 (.t 0)⟩,
    ⟨some 2, none, .alloc 20 [.int .i64 0, .int .i64 0, .int .i64 0, .str [], .nils]⟩])
  (.seq
   (.draw [0, 1, 0, 4, 12, 28, 63, 0, 128, 0, 512, 1536, 3584, 8064, 2047, 18431, 65535, 131071] [[1], [3], [1], [5], [6], [7], [4, 8], [1], [10], [1], [12], [13], [14], [11, 15], [1], [17, 9], [1], [18, 16]] [⟨some 3, none, .fldA 4 (.t 1)⟩,
     ⟨some 4, none, .load false 1 (.t 3)⟩,
     ⟨some 5, none, .fldA 4 (.t 1)⟩,
     ⟨some 6, none, .load false 1 (.t 5)⟩,
     ⟨some 7, none, .lenS (.t 6)⟩,
     ⟨some 8, none, .mm false [.t 7, .k (.int .i64 150)]⟩,
     ⟨some 9, none, .slcS 10 1 (.t 4) none (some (.t 8)) none⟩,
     ⟨some 10, none, .fldA 3 (.t 1)⟩,
     ⟨some 11, none, .load false 1 (.t 10)⟩,
     ⟨some 12, none, .fldA 3 (.t 1)⟩,
     ⟨some 13, none, .load false 1 (.t 12)⟩,
     ⟨some 14, none, .lenT (.t 13)⟩,
     ⟨some 15, none, .mm false [.t 14, .k (.int .i64 20)]⟩,
     ⟨some 16, none, .slcT (.t 11) none (some (.t 15))⟩,
     ⟨some 17, none, .fldA 4 (.t 1)⟩,
     ⟨none, none, .store 1 (.t 17) (.t 9)⟩,
     ⟨some 18, none, .fldA 3 (.t 1)⟩,
     ⟨none, none, .store 1 (.t 18) (.t 16)⟩])
   (.keep [1, 2]
    (.seq
     (.ops [⟨some 19, none, .load true 5 (.t 1)⟩,
       ⟨none, none, .store 5 (.t 2) (.t 19)⟩])
     .ret)))) }
structure N171 (R : Env) : Prop where
  o171 : R.Fn 171 c171
/-- umbra.umbralaw39.PackDeltas -/
def c170 : IFn := { np := 3, rs := [.t 6], body :=
 (.seq
  (.ops [⟨some 3, none, .box 20 (.t 0)⟩,
    ⟨some 6, none, .mv (.k (.bool false))⟩])
  (.seq
   (.draw [0, 1, 0, 0, 8, 24, 60, 3, 255] [[3], [15], [1], [1], [18], [19], [17, 20], [3, 16], [21]] [⟨some 15, none, .load true 5 (.t 3)⟩,
     ⟨some 16, none, .call 171 [.t 15]⟩,
     ⟨some 17, none, .mv (.t 1)⟩,
     ⟨some 18, none, .mv (.t 1)⟩,
     ⟨some 19, none, .lenS (.t 18)⟩,
     ⟨some 20, none, .mm false [.t 19, .k (.int .i64 150)]⟩,
     ⟨some 21, none, .slcS 10 1 (.t 17) none (some (.t 20)) none⟩,
     ⟨none, none, .store 5 (.t 3) (.t 16)⟩,
     ⟨some 1, none, .mv (.t 21)⟩])
   (.keep [1, 2, 3]
    (.seq
     (.ops [⟨some 23, none, .load true 5 (.t 3)⟩,
       ⟨some 24, none, .call 165 [.t 23]⟩,
       ⟨some 22, none, .mv (.t 24)⟩,
       ⟨some 25, none, .ext (.t 22) 0⟩,
       ⟨some 26, none, .ext (.t 22) 1⟩,
       ⟨some 7, none, .mv (.t 25)⟩,
       ⟨some 8, none, .mv (.t 26)⟩])
     (.keep [1, 2, 3, 7, 8]
      (.seq
       (.ops [⟨some 28, none, .load true 5 (.t 3)⟩,
         ⟨some 29, none, .call 172 [.t 28]⟩,
         ⟨some 27, none, .mv (.t 29)⟩,
         ⟨some 30, none, .ext (.t 27) 0⟩,
         ⟨some 31, none, .ext (.t 27) 1⟩,
         ⟨some 9, none, .mv (.t 30)⟩,
         ⟨some 10, none, .mv (.t 31)⟩])
       (.keep [1, 2, 3, 7, 8, 9, 10]
        (.seq
         (.ops [⟨some 33, none, .load true 5 (.t 3)⟩,
           ⟨some 34, none, .mv (.t 1)⟩,
           ⟨some 35, none, .call 173 [.t 33, .t 34]⟩,
           ⟨some 32, none, .mv (.t 35)⟩,
           ⟨some 36, none, .ext (.t 32) 0⟩,
           ⟨some 37, none, .ext (.t 32) 1⟩,
           ⟨some 11, none, .alloc 20 [.int .i64 0, .int .i64 0, .int .i64 0, .str [], .nils]⟩,
           ⟨none, none, .store 5 (.t 11) (.t 36)⟩,
           ⟨some 12, none, .mv (.t 37)⟩])
         (.keep [1, 2, 3, 7, 8, 9, 10, 11, 12]
          (.seq
           (.ops [⟨some 39, none, .load true 5 (.t 3)⟩,
             ⟨some 40, none, .mv (.t 1)⟩,
             ⟨some 41, none, .call 174 [.t 39, .t 40]⟩,
             ⟨some 38, none, .mv (.t 41)⟩,
             ⟨some 42, none, .ext (.t 38) 0⟩,
             ⟨some 43, none, .ext (.t 38) 1⟩,
             ⟨some 13, none, .alloc 20 [.int .i64 0, .int .i64 0, .int .i64 0, .str [], .nils]⟩,
             ⟨none, none, .store 5 (.t 13) (.t 42)⟩,
             ⟨some 14, none, .mv (.t 43)⟩])
           (.keep [2, 7, 8, 9, 10, 11, 12, 13, 14]
            (.seq
             (.ops [⟨some 44, none, .mv (.t 7)⟩,
               ⟨some 45, none, .mv (.t 9)⟩,
               ⟨some 46, none, .call 145 [.t 44, .t 45]⟩,
               ⟨some 47, none, .mv (.t 46)⟩,
               ⟨some 48, some (47, true), .mv (.t 8)⟩,
               ⟨some 49, some (47, true), .mv (.t 10)⟩,
               ⟨some 50, some (47, true), .bin .eql (.t 48) (.t 49)⟩,
               ⟨some 51, none, .pick (.t 47) (.t 50) (.k (.bool false))⟩,
               ⟨some 52, none, .mv (.t 51)⟩,
               ⟨some 53, some (52, true), .load true 5 (.t 11)⟩,
               ⟨some 54, some (52, true), .load true 5 (.t 13)⟩,
               ⟨some 55, some (52, true), .call 175 [.t 53, .t 54]⟩,
               ⟨some 56, none, .pick (.t 52) (.t 55) (.k (.bool false))⟩,
               ⟨some 57, none, .mv (.t 56)⟩,
               ⟨some 58, some (57, true), .mv (.t 12)⟩,
               ⟨some 59, some (57, true), .mv (.t 14)⟩,
               ⟨some 60, some (57, true), .bin .eql (.t 58) (.t 59)⟩,
               ⟨some 61, none, .pick (.t 57) (.t 60) (.k (.bool false))⟩,
               ⟨some 62, none, .mv (.t 61)⟩,
               ⟨some 63, some (62, true), .mv (.t 2)⟩,
               ⟨some 64, some (62, true), .call 168 [.t 63]⟩,
               ⟨some 65, some (62, true), .mv (.t 2)⟩,
               ⟨some 66, some (62, true), .call 176 [.t 65]⟩,
               ⟨some 67, some (62, true), .bin .eql (.t 64) (.t 66)⟩,
               ⟨some 68, none, .pick (.t 62) (.t 67) (.k (.bool false))⟩,
               ⟨some 69, none, .mv (.t 68)⟩,
               ⟨some 70, some (69, true), .mv (.t 2)⟩,
               ⟨some 71, some (69, true), .call 169 [.t 70]⟩,
               ⟨some 72, some (69, true), .mv (.t 2)⟩,
               ⟨some 73, some (69, true), .call 177 [.t 72]⟩,
               ⟨some 74, some (69, true), .bin .eql (.t 71) (.t 73)⟩,
               ⟨some 75, none, .pick (.t 69) (.t 74) (.k (.bool false))⟩,
               ⟨some 76, none, .mv (.t 75)⟩,
               ⟨some 77, some (76, true), .call 166 []⟩,
               ⟨some 78, none, .pick (.t 76) (.t 77) (.k (.bool false))⟩,
               ⟨some 6, none, .mv (.t 78)⟩])
             (.keep [6]
              .ret))))))))))))) }
structure N170 (R : Env) : Prop where
  o170 : R.Fn 170 c170
  n145 : N145 R
  n165 : N165 R
  n166 : N166 R
  n168 : N168 R
  n169 : N169 R
  n171 : N171 R
  n172 : N172 R
  n173 : N173 R
  n174 : N174 R
  n175 : N175 R
  n176 : N176 R
  n177 : N177 R
/-- umbra.umbralaw39.PackBack -/
def c178 : IFn := { np := 2, rs := [.t 4], body :=
 (.seq
  (.ops [⟨some 4, none, .mv (.k (.bool false))⟩])
  (.seq
   (.ops [⟨some 21, none, .mv (.t 1)⟩,
     ⟨some 22, none, .mv (.t 1)⟩,
     ⟨some 23, none, .lenS (.t 22)⟩,
     ⟨some 24, none, .mm false [.t 23, .k (.int .i64 500)]⟩,
     ⟨some 25, none, .slcS 4 1 (.t 21) none (some (.t 24)) none⟩,
     ⟨some 1, none, .mv (.t 25)⟩])
   (.keep [0, 1]
    (.seq
     (.ops [⟨some 5, none, .mv (.k (.nils))⟩])
     (.seq
      (.seq
       (.ops [⟨some 6, none, .mv (.k (.int .i64 0))⟩])
       (.keep [0, 1, 5, 6]
        (.block 0
         (.loop
          (.seq
           (.seq
            (.ops [⟨some 26, none, .mv (.t 6)⟩,
              ⟨some 27, none, .mv (.t 0)⟩,
              ⟨some 28, none, .lenS (.t 27)⟩,
              ⟨some 29, none, .bin .lss (.t 26) (.t 28)⟩,
              ⟨some 30, none, .mv (.t 29)⟩,
              ⟨some 31, some (30, true), .mv (.t 6)⟩,
              ⟨some 32, some (30, true), .bin .lss (.t 31) (.k (.int .i64 6))⟩,
              ⟨some 33, none, .pick (.t 30) (.t 32) (.k (.bool false))⟩])
            (.keep [0, 1, 5, 6, 33]
             (.cond (.t 33)
              .skip
              (.exit 0))))
           (.keep [0, 1, 5, 6]
            (.seq
             (.block 1
              (.seq
               (.ops [⟨some 36, none, .mv (.t 0)⟩,
                 ⟨some 37, none, .mv (.t 6)⟩,
                 ⟨some 38, none, .idxS 5 (.t 36) (.t 37)⟩,
                 ⟨some 39, none, .load true 5 (.t 38)⟩,
                 ⟨some 40, none, .call 171 [.t 39]⟩,
                 ⟨some 7, none, .alloc 20 [.int .i64 0, .int .i64 0, .int .i64 0, .str [], .nils]⟩,
                 ⟨none, none, .store 5 (.t 7) (.t 40)⟩])
               (.keep [0, 1, 5, 6, 7]
                (.seq
                 (.ops [⟨some 42, none, .load true 5 (.t 7)⟩,
                   ⟨some 43, none, .call 164 [.t 42]⟩,
                   ⟨some 41, none, .mv (.t 43)⟩,
                   ⟨some 44, none, .ext (.t 41) 0⟩,
                   ⟨some 45, none, .ext (.t 41) 1⟩,
                   ⟨some 8, none, .mv (.t 44)⟩,
                   ⟨some 9, none, .mv (.t 45)⟩])
                 (.keep [0, 1, 5, 6, 7, 8, 9]
                  (.seq
                   (.seq
                    (.ops [⟨some 46, none, .mv (.t 9)⟩,
                      ⟨some 47, none, .bin .neq (.t 46) (.k (.int .i64 0))⟩])
                    (.cond (.t 47)
                     (.exit 1)
                     .skip))
                   (.keep [0, 1, 5, 6, 7, 8]
                    (.seq
                     (.ops [⟨some 48, none, .mv (.t 5)⟩,
                       ⟨some 49, none, .load true 5 (.t 7)⟩,
                       ⟨some 50, none, .bslice 20 5 1 [.int .i64 0, .int .i64 0, .int .i64 0, .str [], .nils] [(0, .t 49)]⟩,
                       ⟨some 51, none, .app 20 5 (.t 48) (.t 50)⟩,
                       ⟨some 5, none, .mv (.t 51)⟩])
                     (.keep [0, 1, 5, 6, 7, 8]
                      (.seq
                       (.ops [⟨some 53, none, .mv (.t 8)⟩,
                         ⟨some 54, none, .call 179 [.t 53]⟩,
                         ⟨some 52, none, .mv (.t 54)⟩,
                         ⟨some 55, none, .ext (.t 52) 0⟩,
                         ⟨some 56, none, .ext (.t 52) 1⟩,
                         ⟨some 10, none, .alloc 20 [.int .i64 0, .int .i64 0, .int .i64 0, .str [], .nils]⟩,
                         ⟨none, none, .store 5 (.t 10) (.t 55)⟩,
                         ⟨some 11, none, .mv (.t 56)⟩])
                       (.keep [0, 1, 5, 6, 7, 10, 11]
                        (.seq
                         (.ops [⟨some 57, none, .mv (.t 11)⟩,
                           ⟨some 58, none, .bin .neq (.t 57) (.k (.int .i64 0))⟩,
                           ⟨some 59, none, .mv (.t 58)⟩,
                           ⟨some 60, some (59, false), .load true 5 (.t 7)⟩,
                           ⟨some 61, some (59, false), .load true 5 (.t 10)⟩,
                           ⟨some 62, some (59, false), .call 175 [.t 60, .t 61]⟩,
                           ⟨some 63, some (59, false), .un .not (.t 62)⟩,
                           ⟨some 64, none, .pick (.t 59) (.k (.bool true)) (.t 63)⟩])
                         (.keep [0, 1, 5, 6, 64]
                          (.cond (.t 64)
                           (.seq
                            (.ops [⟨some 4, none, .mv (.k (.bool false))⟩])
                            .ret)
                           .skip))))))))))))))
             (.keep [0, 1, 5, 6]
              (.ops [⟨some 34, none, .mv (.t 6)⟩,
                ⟨some 35, none, .bin .add (.t 34) (.k (.int .i64 1))⟩,
                ⟨some 6, none, .mv (.t 35)⟩])))))))))
      (.keep [1, 5]
       (.seq
        (.ops [⟨some 66, none, .mv (.t 5)⟩,
          ⟨some 67, none, .call 180 [.t 66]⟩,
          ⟨some 65, none, .mv (.t 67)⟩,
          ⟨some 68, none, .ext (.t 65) 0⟩,
          ⟨some 69, none, .ext (.t 65) 1⟩,
          ⟨some 12, none, .mv (.t 68)⟩,
          ⟨some 13, none, .mv (.t 69)⟩])
        (.keep [1, 5, 12, 13]
         (.seq
          (.ops [⟨some 71, none, .mv (.t 12)⟩,
            ⟨some 72, none, .call 181 [.t 71]⟩,
            ⟨some 70, none, .mv (.t 72)⟩,
            ⟨some 73, none, .ext (.t 70) 0⟩,
            ⟨some 74, none, .ext (.t 70) 1⟩,
            ⟨some 14, none, .mv (.t 73)⟩,
            ⟨some 15, none, .mv (.t 74)⟩])
          (.keep [1, 5, 13, 14, 15]
           (.seq
            (.seq
             (.ops [⟨some 75, none, .mv (.t 13)⟩,
               ⟨some 76, none, .bin .neq (.t 75) (.k (.int .i64 0))⟩,
               ⟨some 77, none, .mv (.t 76)⟩,
               ⟨some 78, some (77, false), .mv (.t 15)⟩,
               ⟨some 79, some (77, false), .bin .neq (.t 78) (.k (.int .i64 0))⟩,
               ⟨some 80, none, .pick (.t 77) (.k (.bool true)) (.t 79)⟩,
               ⟨some 81, none, .mv (.t 80)⟩,
               ⟨some 82, some (81, false), .mv (.t 14)⟩,
               ⟨some 83, some (81, false), .lenS (.t 82)⟩,
               ⟨some 84, some (81, false), .mv (.t 5)⟩,
               ⟨some 85, some (81, false), .lenS (.t 84)⟩,
               ⟨some 86, some (81, false), .bin .neq (.t 83) (.t 85)⟩,
               ⟨some 87, none, .pick (.t 81) (.k (.bool true)) (.t 86)⟩])
             (.keep [1, 5, 14, 87]
              (.cond (.t 87)
               (.seq
                (.ops [⟨some 4, none, .mv (.k (.bool false))⟩])
                .ret)
               .skip)))
            (.keep [1, 5, 14]
             (.seq
              (.seq
               (.ops [⟨some 88, none, .mv (.t 14)⟩,
                 ⟨some 89, none, .lenS (.t 88)⟩,
                 ⟨some 90, none, .mv (.k (.int .i64 0))⟩])
               (.keep [1, 5, 14, 89, 90]
                (.block 2
                 (.loop
                  (.seq
                   (.ops [⟨some 91, none, .bin .lss (.t 90) (.t 89)⟩])
                   (.seq
                    (.cond (.t 91)
                     .skip
                     (.exit 2))
                    (.keep [1, 5, 14, 89, 90]
                     (.seq
                      (.block 3
                       (.seq
                        (.ops [⟨some 92, none, .mv (.t 90)⟩,
                          ⟨some 16, none, .mv (.t 92)⟩])
                        (.seq
                         (.draw [0, 0, 3, 7, 0, 0, 48, 112, 255, 511] [[14], [16], [93, 94], [95], [5], [16], [97, 98], [99], [96, 100], [101]] [⟨some 93, none, .mv (.t 14)⟩,
                           ⟨some 94, none, .mv (.t 16)⟩,
                           ⟨some 95, none, .idxS 5 (.t 93) (.t 94)⟩,
                           ⟨some 96, none, .load true 5 (.t 95)⟩,
                           ⟨some 97, none, .mv (.t 5)⟩,
                           ⟨some 98, none, .mv (.t 16)⟩,
                           ⟨some 99, none, .idxS 5 (.t 97) (.t 98)⟩,
                           ⟨some 100, none, .load true 5 (.t 99)⟩,
                           ⟨some 101, none, .call 175 [.t 96, .t 100]⟩,
                           ⟨some 102, none, .un .not (.t 101)⟩])
                         (.keep [1, 5, 14, 89, 90, 102]
                          (.cond (.t 102)
                           (.seq
                            (.ops [⟨some 4, none, .mv (.k (.bool false))⟩])
                            .ret)
                           .skip)))))
                      (.keep [1, 5, 14, 89, 90]
                       (.ops [⟨some 103, none, .bin .add (.t 90) (.k (.int .i64 1))⟩,
                         ⟨some 90, none, .mv (.t 103)⟩]))))))))))
              (.keep [1]
               (.seq
                (.ops [⟨some 105, none, .mv (.t 1)⟩,
                  ⟨some 106, none, .call 179 [.t 105]⟩,
                  ⟨some 104, none, .mv (.t 106)⟩,
                  ⟨some 107, none, .ext (.t 104) 0⟩,
                  ⟨some 108, none, .ext (.t 104) 1⟩,
                  ⟨some 17, none, .alloc 20 [.int .i64 0, .int .i64 0, .int .i64 0, .str [], .nils]⟩,
                  ⟨none, none, .store 5 (.t 17) (.t 107)⟩,
                  ⟨some 18, none, .mv (.t 108)⟩])
                (.keep [1, 17, 18]
                 (.seq
                  (.seq
                   (.ops [⟨some 109, none, .mv (.t 18)⟩,
                     ⟨some 110, none, .bin .neq (.t 109) (.k (.int .i64 0))⟩])
                   (.cond (.t 110)
                    (.seq
                     (.ops [⟨some 111, none, .fldA 4 (.t 17)⟩,
                       ⟨some 112, none, .load false 1 (.t 111)⟩,
                       ⟨some 113, none, .lenS (.t 112)⟩,
                       ⟨some 114, none, .bin .eql (.t 113) (.k (.int .i64 0))⟩,
                       ⟨some 115, none, .mv (.t 114)⟩,
                       ⟨some 116, some (115, true), .call 166 []⟩,
                       ⟨some 117, none, .pick (.t 115) (.t 116) (.k (.bool false))⟩,
                       ⟨some 4, none, .mv (.t 117)⟩])
                     (.keep [4]
                      .ret))
                    .skip))
                  (.keep [1, 17]
                   (.seq
                    (.ops [⟨some 119, none, .load true 5 (.t 17)⟩,
                      ⟨some 120, none, .call 164 [.t 119]⟩,
                      ⟨some 118, none, .mv (.t 120)⟩,
                      ⟨some 121, none, .ext (.t 118) 0⟩,
                      ⟨some 122, none, .ext (.t 118) 1⟩,
                      ⟨some 19, none, .mv (.t 121)⟩,
                      ⟨some 20, none, .mv (.t 122)⟩])
                    (.keep [1, 19, 20]
                     (.seq
                      (.ops [⟨some 123, none, .mv (.t 20)⟩,
                        ⟨some 124, none, .bin .eql (.t 123) (.k (.int .i64 0))⟩,
                        ⟨some 125, none, .mv (.t 124)⟩,
                        ⟨some 126, some (125, true), .mv (.t 1)⟩,
                        ⟨some 127, some (125, true), .mv (.t 19)⟩,
                        ⟨some 128, some (125, true), .call 47 [.t 126, .t 127]⟩,
                        ⟨some 129, none, .pick (.t 125) (.t 128) (.k (.bool false))⟩,
                        ⟨some 130, none, .mv (.t 129)⟩,
                        ⟨some 131, some (130, true), .call 166 []⟩,
                        ⟨some 132, none, .pick (.t 130) (.t 131) (.k (.bool false))⟩,
                        ⟨some 4, none, .mv (.t 132)⟩])
                      (.keep [4]
                       .ret)))))))))))))))))))))) }
structure N178 (R : Env) : Prop where
  o178 : R.Fn 178 c178
  n47 : N47 R
  n164 : N164 R
  n166 : N166 R
  n171 : N171 R
  n175 : N175 R
  n179 : N179 R
  n180 : N180 R
  n181 : N181 R
end Go.UM

/- What the program's own structs are, as rows of cells. -/

namespace Go.UM
open Go.AM

/-- A manifest. -/
structure Mf where
  (id kind label m0 m1 m2 m3 m4 m5 m6 m7 first last size chunks : Int)

def Mf.row (m : Mf) : List AV := [.int .u64 m.id, .int .i64 m.kind, .int .u32 m.label, .int .u8 m.m0, .int .u8 m.m1, .int .u8 m.m2, .int .u8 m.m3, .int .u8 m.m4, .int .u8 m.m5, .int .u8 m.m6, .int .u8 m.m7,
  .int .u32 m.first, .int .u32 m.last, .int .i64 m.size, .int .i64 m.chunks]


def Mf.mask (m : Mf) : Nat → Int
  | 0 => m.m0 | 1 => m.m1 | 2 => m.m2 | 3 => m.m3 | 4 => m.m4 | 5 => m.m5 | 6 => m.m6 | 7 => m.m7 | _ => 0

theorem vix_masks {m : Mf} {i : Nat} {K : AV → Prop} (hi : i < 8) (k : K (.int .u8 (m.mask i))) : VIx false 8 1 [.int .u8 m.m0, .int .u8 m.m1, .int .u8 m.m2, .int .u8 m.m3, .int .u8 m.m4, .int .u8 m.m5, .int .u8 m.m6, .int .u8 m.m7] (i : Int) K := by
  refine ⟨⟨by omega, by omega⟩, ?_⟩
  obtain h | h | h | h | h | h | h | h : i = 0 ∨ i = 1 ∨ i = 2 ∨ i = 3 ∨ i = 4 ∨ i = 5 ∨ i = 6 ∨ i = 7 := by omega
  all_goals subst h; exact k

/-- All numbers are of their kinds. -/
structure Mf.Ok (m : Mf) : Prop where
  id : inI .u64 m.id
  kind : inI .i64 m.kind
  label : inI .u32 m.label
  mask : ∀ i, 0 ≤ m.mask i ∧ m.mask i ≤ 255
  first : inI .u32 m.first
  last : inI .u32 m.last
  size : inI .i64 m.size
  chunks : inI .i64 m.chunks
end Go.UM

/- Bytes and rows of numbers. -/

namespace Go.UM
open Go.AM

/-- The byte of a number. -/
def u8 (n : Int) : UInt8 := UInt8.ofNat (n % 256).toNat
theorem wr_u8 (n : Int) : wr .u8 n = ((u8 n).toNat : Int) := by
  have h1 : 0 ≤ n % 256 := Int.emod_nonneg _ (by decide)
  have h2 : n % 256 < 256 := Int.emod_lt_of_pos _ (by decide)
  simp only [wr, IntKind.wrap, IntKind.bits, IntKind.signed, u8]
  simp
  omega
theorem u8_mod (n : Int) : u8 (n % 256) = u8 n := by unfold u8; rw [Int.emod_emod_of_dvd n (Int.dvd_refl 256)]
theorem u8_tmod {n : Int} (h : 0 ≤ n) : u8 (n.tmod 256) = u8 n := by rw [Int.tmod_eq_emod_of_nonneg h, u8_mod]
theorem u8_toNat (c : UInt8) : u8 (c.toNat : Int) = c := by
  have := c.toNat_lt
  unfold u8
  rw [show ((c.toNat : Int) % 256).toNat = c.toNat by omega]
  simp

theorem u8_in {n : Int} (h : 0 ≤ n ∧ n ≤ 255) : ((u8 n).toNat : Int) = n := by rw [← wr_u8, wr_in (k := .u8) h]

/-- Bytes, and numbers, as the elements of a slice. -/
def slc8 (l : List UInt8) : List (List AV) := l.map fun c => [.int .u8 c.toNat]
def slcK (k : IntKind) (l : List Int) : List (List AV) := l.map fun x => [.int k x]
@[simp] theorem slc8_nil : slc8 [] = [] := rfl
@[simp] theorem slc8_length (l : List UInt8) : (slc8 l).length = l.length := by simp [slc8]
@[simp] theorem slc8_append (a b : List UInt8) : slc8 (a ++ b) = slc8 a ++ slc8 b := by simp [slc8]
@[simp] theorem slc8_one (n : Int) : [[AV.int .u8 (wr .u8 n)]] = slc8 [u8 n] := by simp [slc8, wr_u8]
@[simp] theorem slcK_nil (k : IntKind) : slcK k [] = [] := rfl
@[simp] theorem slcK_length (k : IntKind) (l : List Int) : (slcK k l).length = l.length := by simp [slcK]
@[simp] theorem slcK_append (k : IntKind) (a b : List Int) : slcK k (a ++ b) = slcK k a ++ slcK k b := by simp [slcK]
theorem slcK_one (k : IntKind) (n : Int) : [[AV.int k n]] = slcK k [n] := rfl
@[simp] theorem slc8_NmL (l : List UInt8) : NmL (slc8 l) := by simp [slc8]
@[simp] theorem slcK_NmL (k : IntKind) (l : List Int) : NmL (slcK k l) := by simp [slcK]
@[simp] theorem slc8_FlL (l : List UInt8) : FlL (slc8 l) := by simp [slc8]
@[simp] theorem slcK_FlL (k : IntKind) (l : List Int) : FlL (slcK k l) := by simp [slcK]
instance {l : List UInt8} : LenOf (slc8 l) l.length := ⟨slc8_length l⟩
instance {k : IntKind} {l : List Int} : LenOf (slcK k l) l.length := ⟨slcK_length k l⟩
@[simp] theorem mem_slc8 {e : List AV} {l : List UInt8} : e ∈ slc8 l ↔ ∃ c, c ∈ l ∧ [AV.int .u8 c.toNat] = e := by simp [slc8]
@[simp] theorem mem_slcK {k : IntKind} {e : List AV} {l : List Int} : e ∈ slcK k l ↔ ∃ c, c ∈ l ∧ [AV.int k c] = e := by simp [slcK]
theorem slc8_take (l : List UInt8) (k : Nat) : (slc8 l).take k = slc8 (l.take k) := by simp [slc8, List.map_take]
theorem slc8_drop (l : List UInt8) (k : Nat) : (slc8 l).drop k = slc8 (l.drop k) := by simp [slc8, List.map_drop]
theorem slcK_take (k' : IntKind) (l : List Int) (k : Nat) : (slcK k' l).take k = slcK k' (l.take k) := by simp [slcK, List.map_take]
theorem slcK_drop (k' : IntKind) (l : List Int) (k : Nat) : (slcK k' l).drop k = slcK k' (l.drop k) := by simp [slcK, List.map_drop]
theorem slc8_inj {a b : List UInt8} (h : slc8 a = slc8 b) : a = b := by
  have := congrArg (List.map fun e : List AV => match e with | [.int _ n] => u8 n | _ => 0) h
  simpa [slc8, List.map_map, Function.comp_def, u8_toNat] using this
theorem get8 {l : List UInt8} {i : Nat} {x : UInt8} (h : l[i]? = some x) {K : List AV → Prop} (k : K [.int .u8 x.toNat]) : EGet (slc8 l) i K := eget_map h k
theorem getK {kk : IntKind} {l : List Int} {i : Nat} {x : Int} (h : l[i]? = some x) {K : List AV → Prop} (k : K [.int kk x]) : EGet (slcK kk l) i K := eget_map h k

theorem take_succ_get {α : Type} {l : List α} {k : Nat} {x : α} (h : l[k]? = some x) : l.take (k + 1) = l.take k ++ [x] := by
  rw [List.take_add_one, h]; rfl

theorem shr_eq {k : IntKind} {x y : Int} (hx : 0 ≤ x) : shrI k x y = x / 2 ^ (min y.toNat k.bits) := by
  unfold shrI
  rw [Int.fdiv_eq_ediv_of_nonneg]
  exact Int.le_of_lt (Int.pow_pos (by decide))
theorem aS8 {s : List UInt8} {K : List UInt8 → Prop} (k : K s) : AStr (slc8 s) K := ⟨⟨s, rfl, k⟩⟩
theorem take_cap {α : Type} (l : List α) (m : Int) : l.take (min (l.length : Int) m).toNat = l.take m.toNat := by
  by_cases h : (l.length : Int) ≤ m
  · rw [show (min (l.length : Int) m).toNat = l.length by omega, List.take_of_length_le (Nat.le_refl _), List.take_of_length_le (by omega)]
  · rw [show (min (l.length : Int) m).toNat = m.toNat by omega]
theorem cap8 (b : List UInt8) (m : Int) : (slc8 b).take (min (b.length : Int) m).toNat = slc8 (b.take m.toNat) := by rw [slc8_take, take_cap]
theorem capK (k : IntKind) (b : List Int) (m : Int) : (slcK k b).take (min (b.length : Int) m).toNat = slcK k (b.take m.toNat) := by rw [slcK_take, take_cap]
instance {l : List UInt8} {k : Nat} : TkOf ((slc8 l).take k) (slc8 (l.take k)) := ⟨slc8_take l k⟩
instance {l : List UInt8} {k : Nat} : TkOf ((slc8 l).drop k) (slc8 (l.drop k)) := ⟨slc8_drop l k⟩
instance {l : List UInt8} {k j : Nat} : TkOf (((slc8 l).take k).drop j) (slc8 ((l.take k).drop j)) := ⟨by rw [slc8_take, slc8_drop]⟩
instance {kk : IntKind} {l : List Int} {k : Nat} : TkOf ((slcK kk l).take k) (slcK kk (l.take k)) := ⟨slcK_take kk l k⟩
instance {kk : IntKind} {l : List Int} {k : Nat} : TkOf ((slcK kk l).drop k) (slcK kk (l.drop k)) := ⟨slcK_drop kk l k⟩
instance {kk : IntKind} {l : List Int} {k j : Nat} : TkOf (((slcK kk l).take k).drop j) (slcK kk ((l.take k).drop j)) := ⟨by rw [slcK_take, slcK_drop]⟩
end Go.UM

/- Package pam, part 1: may a plane be? -/



namespace Go.UM
open Go.AM
set_option maxRecDepth 4000

/-- A plane. -/
structure Pl where
  (w h deep : Int)
  name : List UInt8
  data : List Int
def Pl.row (p : Pl) : List AV := [.int .i64 p.w, .int .i64 p.h, .int .i64 p.deep, .str p.name, .isl 1 (slcK .i64 p.data)]

theorem between_c {R : Env} (h : N157 R) (x a b : Int) : R.Pc 157 [.int .i64 x, .int .i64 a, .int .i64 b] (.bool (decide (a ≤ x) && decide (x ≤ b))) :=
  h.o157.enter 60 rfl fun X bb hfit hp => by
    repeat ((intro _u; clear _u); first | with_reducible first | refine cT ?_ | refine cF ?_ | refine cA ?_ | refine cB ?_ | refine aLn ?_ | refine cK ?_ | refine aS8 ?_ | refine wI ?_ | refine nD ?_ | refine aX rfl ?_)
    intro _u; clear _u
    refine cS (fun h1 => ?_) (fun h1 => ?_)
    · repeat ((intro _u; clear _u); first | with_reducible first | refine cT ?_ | refine cF ?_ | refine cA ?_ | refine cB ?_ | refine aLn ?_ | refine cK ?_ | refine aS8 ?_ | refine wI ?_ | refine nD ?_ | refine aX rfl ?_)
      intro _u; clear _u
      refine rT ?_
      all_goals repeat' (first | exact True.intro | refine And.intro ?_ ?_ | (intro _u; clear _u) | with_reducible first | refine eM ?_ ?_ | refine eF ?_ ?_ ?_ | refine eN ?_ | refine eL ?_ ?_ ?_ | refine eA ?_ ?_ | refine IWk.mk ⟨_, hp, rfl⟩ ?_ ?_)
      all_goals first | with_reducible rfl | omega | exact Or.inl (by decide) | (simp; done) | rfl | skip
      simp [h1]
    · repeat ((intro _u; clear _u); first | with_reducible first | refine cT ?_ | refine cF ?_ | refine cA ?_ | refine cB ?_ | refine aLn ?_ | refine cK ?_ | refine aS8 ?_ | refine wI ?_ | refine nD ?_ | refine aX rfl ?_)
      intro _u; clear _u
      refine rT ?_
      all_goals repeat' (first | exact True.intro | refine And.intro ?_ ?_ | (intro _u; clear _u) | with_reducible first | refine eM ?_ ?_ | refine eF ?_ ?_ ?_ | refine eN ?_ | refine eL ?_ ?_ ?_ | refine eA ?_ ?_ | refine IWk.mk ⟨_, hp, rfl⟩ ?_ ?_)
      all_goals first | with_reducible rfl | omega | exact Or.inl (by decide) | (simp; done) | rfl | skip
      simp; omega

theorem all_bad {α : Type} {l : List α} {k : Nat} {x : α} {p : α → Bool} (h : l[k]? = some x) (hx : p x = false) : l.all p = false := by
  rw [List.all_eq_false]
  exact ⟨x, List.mem_of_getElem? h, by rw [hx]; simp⟩
theorem all_take_succ {α : Type} {l : List α} {k : Nat} {x : α} {p : α → Bool} (h : l[k]? = some x) : (l.take (k + 1)).all p = ((l.take k).all p && p x) := by
  rw [take_succ_get h, List.all_append]; simp

def upper (c : UInt8) : Bool := decide (65 ≤ c.toNat) && decide (c.toNat ≤ 90)
def named (s : List UInt8) : Bool := s.all upper && (decide (1 ≤ (s.length : Int)) && decide ((s.length : Int) ≤ 16))
theorem named_c {R : Env} (h : N158 R) (s : List UInt8) (hs : s.length ≤ 1073741824) : R.Pc 158 [.str s] (.bool (named s)) :=
  h.o158.enter 60 rfl fun X bb hfit hp => by
    repeat ((intro _u; clear _u); first | with_reducible first | refine cT ?_ | refine cF ?_ | refine cA ?_ | refine cB ?_ | refine aLn ?_ | refine cK ?_ | refine aS8 ?_ | refine wI ?_ | refine nD ?_ | refine aX rfl ?_)
    intro _u; clear _u
    refine lPa 60 (fun k : Nat => k ≤ s.length ∧ (s.take k).all upper = true) (fun k => ⟨[(0, .str s), (6, .osl 0 s.length), (7, .int .i64 s.length), (8, .int .i64 k)], [(0, .arr (R.ty 4) 1 (slc8 s))], 1⟩) (fun k => s.length - k) (0) ?_ ?_
    · exact ⟨Nat.zero_le _, by simp⟩
    · intro k hk
      dsimp only
      repeat ((intro _u; clear _u); first | with_reducible first | refine cT ?_ | refine cF ?_ | refine cA ?_ | refine cB ?_ | refine aLn ?_ | refine cK ?_ | refine aS8 ?_ | refine wI ?_ | refine nD ?_ | refine aX rfl ?_)
      intro _u; clear _u
      refine cS (fun h1 => ?_) (fun h1 => ?_)
      · obtain ⟨x, hx⟩ : ∃ u_, s[k]? = some u_ := ⟨_, List.getElem?_eq_getElem (by first | omega | (simp <;> omega))⟩
        repeat ((intro _u; clear _u); first | with_reducible first | refine cT ?_ | refine cF ?_ | refine cA ?_ | refine cB ?_ | refine aLn ?_ | refine cK ?_ | refine aS8 ?_ | refine wI ?_ | refine nD ?_ | refine aX rfl ?_)
        intro _u; clear _u
        refine aelt_map (by simp) hx ?_
        have hx8 := x.toNat_lt
        repeat ((intro _u; clear _u); first | with_reducible first | refine cT ?_ | refine cF ?_ | refine cA ?_ | refine cB ?_ | refine aLn ?_ | refine cK ?_ | refine aS8 ?_ | refine wI ?_ | refine nD ?_ | refine aX rfl ?_)
        intro _u; clear _u
        refine cS (fun h2 => ?_) (fun h2 => ?_)
        · repeat ((intro _u; clear _u); first | with_reducible first | refine cT ?_ | refine cF ?_ | refine cA ?_ | refine cB ?_ | refine aLn ?_ | refine cK ?_ | refine aS8 ?_ | refine wI ?_ | refine nD ?_ | refine aX rfl ?_)
          intro _u; clear _u
          refine rT ?_
          all_goals repeat' (first | exact True.intro | refine And.intro ?_ ?_ | (intro _u; clear _u) | with_reducible first | refine eM ?_ ?_ | refine eF ?_ ?_ ?_ | refine eN ?_ | refine eL ?_ ?_ ?_ | refine eA ?_ ?_ | refine IWk.mk ⟨_, hp, rfl⟩ ?_ ?_)
          all_goals first | with_reducible rfl | omega | exact Or.inl (by decide) | (simp; done) | rfl | skip
          have hno : upper x = false := by simp [upper]; omega
          simp [named, all_bad hx hno]
        · repeat ((intro _u; clear _u); first | with_reducible first | refine cT ?_ | refine cF ?_ | refine cA ?_ | refine cB ?_ | refine aLn ?_ | refine cK ?_ | refine aS8 ?_ | refine wI ?_ | refine nD ?_ | refine aX rfl ?_)
          intro _u; clear _u
          refine cS (fun h3 => ?_) (fun h3 => ?_)
          · repeat ((intro _u; clear _u); first | with_reducible first | refine cT ?_ | refine cF ?_ | refine cA ?_ | refine cB ?_ | refine aLn ?_ | refine cK ?_ | refine aS8 ?_ | refine wI ?_ | refine nD ?_ | refine aX rfl ?_)
            intro _u; clear _u
            refine rT ?_
            all_goals repeat' (first | exact True.intro | refine And.intro ?_ ?_ | (intro _u; clear _u) | with_reducible first | refine eM ?_ ?_ | refine eF ?_ ?_ ?_ | refine eN ?_ | refine eL ?_ ?_ ?_ | refine eA ?_ ?_ | refine IWk.mk ⟨_, hp, rfl⟩ ?_ ?_)
            all_goals first | with_reducible rfl | omega | exact Or.inl (by decide) | (simp; done) | rfl | skip
            have hno : upper x = false := by simp [upper]; omega
            simp [named, all_bad hx hno]
          · repeat ((intro _u; clear _u); first | with_reducible first | refine cT ?_ | refine cF ?_ | refine cA ?_ | refine cB ?_ | refine aLn ?_ | refine cK ?_ | refine aS8 ?_ | refine wI ?_ | refine nD ?_ | refine aX rfl ?_)
            intro _u; clear _u
            refine nXa (k + 1) ?_ ?_
            · refine ⟨by omega, ?_⟩
              have hyes : upper x = true := by simp [upper]; omega
              rw [all_take_succ hx, hk.2, hyes]; rfl
            · omega
      · have hk2 := hk.2
        rw [List.take_of_length_le (by omega)] at hk2
        repeat ((intro _u; clear _u); first | with_reducible first | refine cT ?_ | refine cF ?_ | refine cA ?_ | refine cB ?_ | refine aLn ?_ | refine cK ?_ | refine aS8 ?_ | refine wI ?_ | refine nD ?_ | refine aX rfl ?_)
        intro _u; clear _u
        refine ICall.pure h.n157.o157.hb (between_c h.n157 s.length 1 16) rfl ?_
        repeat ((intro _u; clear _u); first | with_reducible first | refine cT ?_ | refine cF ?_ | refine cA ?_ | refine cB ?_ | refine aLn ?_ | refine cK ?_ | refine aS8 ?_ | refine wI ?_ | refine nD ?_ | refine aX rfl ?_)
        intro _u; clear _u
        refine rT ?_
        all_goals repeat' (first | exact True.intro | refine And.intro ?_ ?_ | (intro _u; clear _u) | with_reducible first | refine eM ?_ ?_ | refine eF ?_ ?_ ?_ | refine eN ?_ | refine eL ?_ ?_ ?_ | refine eA ?_ ?_ | refine IWk.mk ⟨_, hp, rfl⟩ ?_ ?_)
        all_goals first | with_reducible rfl | omega | exact Or.inl (by decide) | (simp; done) | rfl | skip
        simp [named, hk2]

def pchk (p : Pl) : Int :=
  if ¬ (1 ≤ p.w ∧ p.w ≤ 64) ∨ ¬ (1 ≤ p.h ∧ p.h ≤ 64) ∨ ¬ (1 ≤ p.deep ∧ p.deep ≤ 4) then 2
  else if named p.name = false ∨ (p.data.length : Int) ≠ p.w * p.h * p.deep then 5
  else if p.data.all (fun x => decide (0 ≤ x) && decide (x ≤ 65535)) = false then 5 else 0

theorem pcheck_c {R : Env} (h : N153 R) (p : Pl) (hs : p.name.length ≤ 1073741824) : R.Pc 153 [.agg p.row] (.int .i64 (pchk p)) :=
  h.o153.enter 60 rfl fun X bb hfit hp => by
    repeat ((intro _u; clear _u); first | with_reducible first | refine cT ?_ | refine cF ?_ | refine cA ?_ | refine cB ?_ | refine aLn ?_ | refine cK ?_ | refine aS8 ?_ | refine wI ?_ | refine nD ?_ | refine aX rfl ?_)
    intro _u; clear _u
    refine ICall.pure h.n157.o157.hb (between_c h.n157 p.w 1 64) rfl ?_
    repeat ((intro _u; clear _u); first | with_reducible first | refine cT ?_ | refine cF ?_ | refine cA ?_ | refine cB ?_ | refine aLn ?_ | refine cK ?_ | refine aS8 ?_ | refine wI ?_ | refine nD ?_ | refine aX rfl ?_)
    intro _u; clear _u
    refine cS (fun h1 => ?_) (fun h1 => ?_)
    · repeat ((intro _u; clear _u); first | with_reducible first | refine cT ?_ | refine cF ?_ | refine cA ?_ | refine cB ?_ | refine aLn ?_ | refine cK ?_ | refine aS8 ?_ | refine wI ?_ | refine nD ?_ | refine aX rfl ?_)
      intro _u; clear _u
      refine rT ?_
      all_goals repeat' (first | exact True.intro | refine And.intro ?_ ?_ | (intro _u; clear _u) | with_reducible first | refine eM ?_ ?_ | refine eF ?_ ?_ ?_ | refine eN ?_ | refine eL ?_ ?_ ?_ | refine eA ?_ ?_ | refine IWk.mk ⟨_, hp, rfl⟩ ?_ ?_)
      all_goals first | with_reducible rfl | omega | exact Or.inl (by decide) | (simp; done) | rfl | skip
      unfold pchk; rw [if_pos (.inl (by simp at h1 ⊢; omega))]
    · repeat ((intro _u; clear _u); first | with_reducible first | refine cT ?_ | refine cF ?_ | refine cA ?_ | refine cB ?_ | refine aLn ?_ | refine cK ?_ | refine aS8 ?_ | refine wI ?_ | refine nD ?_ | refine aX rfl ?_)
      intro _u; clear _u
      refine ICall.pure h.n157.o157.hb (between_c h.n157 p.h 1 64) rfl ?_
      repeat ((intro _u; clear _u); first | with_reducible first | refine cT ?_ | refine cF ?_ | refine cA ?_ | refine cB ?_ | refine aLn ?_ | refine cK ?_ | refine aS8 ?_ | refine wI ?_ | refine nD ?_ | refine aX rfl ?_)
      intro _u; clear _u
      refine cS (fun h2 => ?_) (fun h2 => ?_)
      · repeat ((intro _u; clear _u); first | with_reducible first | refine cT ?_ | refine cF ?_ | refine cA ?_ | refine cB ?_ | refine aLn ?_ | refine cK ?_ | refine aS8 ?_ | refine wI ?_ | refine nD ?_ | refine aX rfl ?_)
        intro _u; clear _u
        refine rT ?_
        all_goals repeat' (first | exact True.intro | refine And.intro ?_ ?_ | (intro _u; clear _u) | with_reducible first | refine eM ?_ ?_ | refine eF ?_ ?_ ?_ | refine eN ?_ | refine eL ?_ ?_ ?_ | refine eA ?_ ?_ | refine IWk.mk ⟨_, hp, rfl⟩ ?_ ?_)
        all_goals first | with_reducible rfl | omega | exact Or.inl (by decide) | (simp; done) | rfl | skip
        unfold pchk; rw [if_pos (.inr (.inl (by simp at h2 ⊢; omega)))]
      · repeat ((intro _u; clear _u); first | with_reducible first | refine cT ?_ | refine cF ?_ | refine cA ?_ | refine cB ?_ | refine aLn ?_ | refine cK ?_ | refine aS8 ?_ | refine wI ?_ | refine nD ?_ | refine aX rfl ?_)
        intro _u; clear _u
        refine ICall.pure h.n157.o157.hb (between_c h.n157 p.deep 1 4) rfl ?_
        repeat ((intro _u; clear _u); first | with_reducible first | refine cT ?_ | refine cF ?_ | refine cA ?_ | refine cB ?_ | refine aLn ?_ | refine cK ?_ | refine aS8 ?_ | refine wI ?_ | refine nD ?_ | refine aX rfl ?_)
        intro _u; clear _u
        refine cS (fun h3 => ?_) (fun h3 => ?_)
        · repeat ((intro _u; clear _u); first | with_reducible first | refine cT ?_ | refine cF ?_ | refine cA ?_ | refine cB ?_ | refine aLn ?_ | refine cK ?_ | refine aS8 ?_ | refine wI ?_ | refine nD ?_ | refine aX rfl ?_)
          intro _u; clear _u
          refine rT ?_
          all_goals repeat' (first | exact True.intro | refine And.intro ?_ ?_ | (intro _u; clear _u) | with_reducible first | refine eM ?_ ?_ | refine eF ?_ ?_ ?_ | refine eN ?_ | refine eL ?_ ?_ ?_ | refine eA ?_ ?_ | refine IWk.mk ⟨_, hp, rfl⟩ ?_ ?_)
          all_goals first | with_reducible rfl | omega | exact Or.inl (by decide) | (simp; done) | rfl | skip
          unfold pchk; rw [if_pos (.inr (.inr (by simp at h3 ⊢; omega)))]
        · have hw : 1 ≤ p.w ∧ p.w ≤ 64 := by simp at h1; omega
          have hh : 1 ≤ p.h ∧ p.h ≤ 64 := by simp at h2; omega
          have hd : 1 ≤ p.deep ∧ p.deep ≤ 4 := by simp at h3; omega
          have e0 : pchk p = if named p.name = false ∨ (p.data.length : Int) ≠ p.w * p.h * p.deep then 5 else if p.data.all (fun x => decide (0 ≤ x) && decide (x ≤ 65535)) = false then 5 else 0 := by
            unfold pchk; rw [if_neg (by omega)]
          rw [e0]
          repeat ((intro _u; clear _u); first | with_reducible first | refine cT ?_ | refine cF ?_ | refine cA ?_ | refine cB ?_ | refine aLn ?_ | refine cK ?_ | refine aS8 ?_ | refine wI ?_ | refine nD ?_ | refine aX rfl ?_)
          intro _u; clear _u
          refine ICall.pure h.n158.o158.hb (named_c h.n158 p.name hs) rfl ?_
          have b1 : 0 ≤ p.w * p.h ∧ p.w * p.h ≤ 4096 := ⟨Int.mul_nonneg (by omega) (by omega), by have := Int.mul_le_mul hw.2 hh.2 (by omega) (by omega); omega⟩
          have b2 : 0 ≤ p.w * p.h * p.deep ∧ p.w * p.h * p.deep ≤ 16384 := ⟨Int.mul_nonneg b1.1 (by omega), by have := Int.mul_le_mul b1.2 hd.2 (by omega) (by omega); omega⟩
          cases hn : named p.name with
          | false =>
            repeat ((intro _u; clear _u); first | with_reducible first | refine cT ?_ | refine cF ?_ | refine cA ?_ | refine cB ?_ | refine aLn ?_ | refine cK ?_ | refine aS8 ?_ | refine wI ?_ | refine nD ?_ | refine aX rfl ?_)
            intro _u; clear _u
            exact rT
          | true =>
            repeat ((intro _u; clear _u); first | with_reducible first | refine cT ?_ | refine cF ?_ | refine cA ?_ | refine cB ?_ | refine aLn ?_ | refine cK ?_ | refine aS8 ?_ | refine wI ?_ | refine nD ?_ | refine aX rfl ?_)
            intro _u; clear _u
            refine cS (fun h4 => ?_) (fun h4 => ?_)
            · repeat ((intro _u; clear _u); first | with_reducible first | refine cT ?_ | refine cF ?_ | refine cA ?_ | refine cB ?_ | refine aLn ?_ | refine cK ?_ | refine aS8 ?_ | refine wI ?_ | refine nD ?_ | refine aX rfl ?_)
              intro _u; clear _u
              exact rT
            · rw [if_neg (by simp; omega)]
              repeat ((intro _u; clear _u); first | with_reducible first | refine cT ?_ | refine cF ?_ | refine cA ?_ | refine cB ?_ | refine aLn ?_ | refine cK ?_ | refine aS8 ?_ | refine wI ?_ | refine nD ?_ | refine aX rfl ?_)
              intro _u; clear _u
              refine lPa 60 (fun k : Nat => k ≤ p.data.length ∧ (p.data.take k).all (fun x => decide (0 ≤ x) && decide (x ≤ 65535)) = true) (fun k => ⟨[(40, .isl 1 (slcK .i64 p.data)), (41, .int .i64 p.data.length), (42, .int .i64 k)], [], 1⟩) (fun k => p.data.length - k) (0) ?_ ?_
              · exact ⟨Nat.zero_le _, by simp⟩
              · intro k hk
                dsimp only
                repeat ((intro _u; clear _u); first | with_reducible first | refine cT ?_ | refine cF ?_ | refine cA ?_ | refine cB ?_ | refine aLn ?_ | refine cK ?_ | refine aS8 ?_ | refine wI ?_ | refine nD ?_ | refine aX rfl ?_)
                intro _u; clear _u
                refine cS (fun h5 => ?_) (fun h5 => ?_)
                · obtain ⟨x, hx⟩ : ∃ u_, p.data[k]? = some u_ := ⟨_, List.getElem?_eq_getElem (by first | omega | (simp <;> omega))⟩
                  repeat ((intro _u; clear _u); first | with_reducible first | refine cT ?_ | refine cF ?_ | refine cA ?_ | refine cB ?_ | refine aLn ?_ | refine cK ?_ | refine aS8 ?_ | refine wI ?_ | refine nD ?_ | refine aX rfl ?_)
                  intro _u; clear _u
                  refine eget_map hx ?_
                  repeat ((intro _u; clear _u); first | with_reducible first | refine cT ?_ | refine cF ?_ | refine cA ?_ | refine cB ?_ | refine aLn ?_ | refine cK ?_ | refine aS8 ?_ | refine wI ?_ | refine nD ?_ | refine aX rfl ?_)
                  intro _u; clear _u
                  refine ICall.pure h.n157.o157.hb (between_c h.n157 x 0 65535) rfl ?_
                  repeat ((intro _u; clear _u); first | with_reducible first | refine cT ?_ | refine cF ?_ | refine cA ?_ | refine cB ?_ | refine aLn ?_ | refine cK ?_ | refine aS8 ?_ | refine wI ?_ | refine nD ?_ | refine aX rfl ?_)
                  intro _u; clear _u
                  refine cS (fun h6 => ?_) (fun h6 => ?_)
                  · repeat ((intro _u; clear _u); first | with_reducible first | refine cT ?_ | refine cF ?_ | refine cA ?_ | refine cB ?_ | refine aLn ?_ | refine cK ?_ | refine aS8 ?_ | refine wI ?_ | refine nD ?_ | refine aX rfl ?_)
                    intro _u; clear _u
                    refine rT ?_
                    all_goals repeat' (first | exact True.intro | refine And.intro ?_ ?_ | (intro _u; clear _u) | with_reducible first | refine eM ?_ ?_ | refine eF ?_ ?_ ?_ | refine eN ?_ | refine eL ?_ ?_ ?_ | refine eA ?_ ?_ | refine IWk.mk ⟨_, hp, rfl⟩ ?_ ?_)
                    all_goals first | with_reducible rfl | omega | exact Or.inl (by decide) | (simp; done) | rfl | skip
                    rw [if_pos (all_bad hx (by simpa using h6))]
                  · repeat ((intro _u; clear _u); first | with_reducible first | refine cT ?_ | refine cF ?_ | refine cA ?_ | refine cB ?_ | refine aLn ?_ | refine cK ?_ | refine aS8 ?_ | refine wI ?_ | refine nD ?_ | refine aX rfl ?_)
                    intro _u; clear _u
                    refine nXa (k + 1) ?_ ?_
                    · refine ⟨by omega, ?_⟩
                      rw [all_take_succ hx, hk.2]; simpa using h6
                    · omega
                · have hk2 := hk.2
                  rw [List.take_of_length_le (by omega)] at hk2
                  rw [if_neg (by rw [hk2]; decide)]
                  repeat ((intro _u; clear _u); first | with_reducible first | refine cT ?_ | refine cF ?_ | refine cA ?_ | refine cB ?_ | refine aLn ?_ | refine cK ?_ | refine aS8 ?_ | refine wI ?_ | refine nD ?_ | refine aX rfl ?_)
                  intro _u; clear _u
                  exact rT
end Go.UM

/- Bits of numbers; numbers of bytes. -/

namespace Go.UM
open Go.AM

theorem ofInt_toNat {n : Nat} {x : Int} (h0 : 0 ≤ x) (h1 : x < 2 ^ n) : (BitVec.ofInt n x).toNat = x.toNat := by
  rw [BitVec.toNat_ofInt]
  congr 1
  apply Int.emod_eq_of_lt h0
  exact_mod_cast h1

theorem wr_nat_u64 {x : Nat} (h : x < 18446744073709551616) : wr .u64 (x : Int) = x := wr_in (k := .u64) ⟨by omega, by omega⟩
theorem wr_nat_u8 {x : Nat} (h : x < 256) : wr .u8 (x : Int) = x := wr_in (k := .u8) ⟨by omega, by omega⟩
theorem wr_nat_i64 {x : Nat} (h : x < 9223372036854775808) : wr .i64 (x : Int) = x := wr_in (k := .i64) ⟨by omega, by omega⟩

theorem or_u64 {x y : Int} (hx : 0 ≤ x ∧ x ≤ 18446744073709551615) (hy : 0 ≤ y ∧ y ≤ 18446744073709551615) : bit2 .or .u64 x y = ((x.toNat ||| y.toNat : Nat) : Int) := by
  have e : bit2 .or .u64 x y = wr .u64 ((BitVec.ofInt 64 x ||| BitVec.ofInt 64 y).toNat : Int) := rfl
  rw [e, BitVec.toNat_or, ofInt_toNat hx.1 (by omega), ofInt_toNat hy.1 (by omega)]
  apply wr_nat_u64
  exact Nat.or_lt_two_pow (n := 64) (by omega) (by omega)

theorem and_u64 {x y : Int} (hx : 0 ≤ x ∧ x ≤ 18446744073709551615) (hy : 0 ≤ y ∧ y ≤ 18446744073709551615) : bit2 .and .u64 x y = ((x.toNat &&& y.toNat : Nat) : Int) := by
  have e : bit2 .and .u64 x y = wr .u64 ((BitVec.ofInt 64 x &&& BitVec.ofInt 64 y).toNat : Int) := rfl
  rw [e, BitVec.toNat_and, ofInt_toNat hx.1 (by omega), ofInt_toNat hy.1 (by omega)]
  apply wr_nat_u64
  exact Nat.and_lt_two_pow (n := 64) _ (by omega)

theorem or_i64 {x y : Int} (hx : 0 ≤ x ∧ x ≤ 9223372036854775807) (hy : 0 ≤ y ∧ y ≤ 9223372036854775807) : bit2 .or .i64 x y = ((x.toNat ||| y.toNat : Nat) : Int) := by
  have e : bit2 .or .i64 x y = wr .i64 ((BitVec.ofInt 64 x ||| BitVec.ofInt 64 y).toNat : Int) := rfl
  rw [e, BitVec.toNat_or, ofInt_toNat hx.1 (by omega), ofInt_toNat hy.1 (by omega)]
  apply wr_nat_i64
  exact Nat.or_lt_two_pow (n := 63) (by omega) (by omega)

theorem and_i64 {x y : Int} (hx : 0 ≤ x ∧ x ≤ 9223372036854775807) (hy : 0 ≤ y ∧ y ≤ 9223372036854775807) : bit2 .and .i64 x y = ((x.toNat &&& y.toNat : Nat) : Int) := by
  have e : bit2 .and .i64 x y = wr .i64 ((BitVec.ofInt 64 x &&& BitVec.ofInt 64 y).toNat : Int) := rfl
  rw [e, BitVec.toNat_and, ofInt_toNat hx.1 (by omega), ofInt_toNat hy.1 (by omega)]
  apply wr_nat_i64
  exact Nat.and_lt_two_pow (n := 63) _ (by omega)

/-- The number of bytes, the least first. -/
def le : List UInt8 → Nat
  | [] => 0
  | c :: r => c.toNat + 256 * le r
theorem le_lt : ∀ l : List UInt8, le l < 256 ^ l.length
  | [] => by simp [le]
  | c :: r => by
    have h1 := le_lt r
    have h2 := c.toNat_lt
    simp only [le, List.length_cons, Nat.pow_succ]
    omega
theorem le_append : ∀ (l m : List UInt8), le (l ++ m) = le l + 256 ^ l.length * le m
  | [], m => by simp [le]
  | c :: r, m => by
    simp only [List.cons_append, le, le_append r, List.length_cons, Nat.pow_succ, Nat.mul_add]
    rw [Nat.mul_comm (256 ^ r.length) 256, Nat.mul_assoc]
    omega
theorem le_snoc (l : List UInt8) (c : UInt8) : le (l ++ [c]) = le l + 256 ^ l.length * c.toNat := by
  rw [le_append]; simp [le]

theorem shl_byte {c : Nat} {i : Nat} (hc : c < 256) (hi : i < 8) : shlI .u64 (c : Int) (8 * (i : Int)) = ((256 ^ i * c : Nat) : Int) := by
  have h : (8 * (i : Int)).toNat = 8 * i := by omega
  unfold shlI
  rw [h, show min (8 * i) (IntKind.bits .u64) = 8 * i by simp [IntKind.bits]; omega]
  have hp : (2 : Int) ^ (8 * i) = ((256 ^ i : Nat) : Int) := by rw [Int.pow_mul, Int.natCast_pow]; rfl
  rw [hp]
  have e : (c : Int) * ((256 ^ i : Nat) : Int) = ((256 ^ i * c : Nat) : Int) := by rw [Int.natCast_mul, Int.mul_comm]
  rw [e]
  apply wr_nat_u64
  have h1 : 256 ^ i * c < 256 ^ i * 256 := by
    apply Nat.mul_lt_mul_of_pos_left hc
    exact Nat.pow_pos (by decide)
  have h2 : 256 ^ i * 256 ≤ 256 ^ 8 := by
    rw [← Nat.pow_succ]
    exact Nat.pow_le_pow_right (by decide) (by omega)
  omega

theorem or_byte {n : Nat} {c : Nat} {i : Nat} (hn : n < 256 ^ i) (hc : c < 256) (hi : i < 8) : bit2 .or .u64 (n : Int) (shlI .u64 (c : Int) (8 * (i : Int))) = ((n + 256 ^ i * c : Nat) : Int) := by
  have h2 : 256 ^ i * 256 ≤ 256 ^ 8 := by
    rw [← Nat.pow_succ]
    exact Nat.pow_le_pow_right (by decide) (by omega)
  have h1 : 256 ^ i * c < 256 ^ i * 256 := by
    apply Nat.mul_lt_mul_of_pos_left hc
    exact Nat.pow_pos (by decide)
  rw [shl_byte hc hi, or_u64 ⟨by omega, by omega⟩ ⟨by omega, by omega⟩, Int.toNat_natCast, Int.toNat_natCast, Nat.or_comm]
  congr 1
  have e : 256 ^ i = 2 ^ (8 * i) := by rw [Nat.pow_mul]
  rw [e] at hn ⊢
  rw [← Nat.two_pow_add_eq_or_of_lt hn, Nat.add_comm]
end Go.UM

/- Package pack, part 1. -/



namespace Go.UM
open Go.AM
set_option maxRecDepth 4000

/-- The low bits of a number. -/
theorem and_low {x : Int} (k : Nat) (hk : k < 63) (hx : inI .i64 x) : bit2 .and .i64 x (2 ^ k - 1) = x % 2 ^ k := by
  simp only [inI] at hx
  have hp : (2 : Nat) ^ k < 2 ^ 63 := Nat.pow_lt_pow_right (by decide) hk
  have hp1 : 1 ≤ (2 : Nat) ^ k := Nat.one_le_two_pow
  have e1 : (BitVec.ofInt 64 (2 ^ k - 1)).toNat = 2 ^ k - 1 := by
    rw [ofInt_toNat (by have : (1 : Int) ≤ 2 ^ k := by exact_mod_cast hp1
                        omega) (by
      have : ((2 : Int) ^ k) < 2 ^ 63 := by exact_mod_cast hp
      omega)]
    have : ((2 : Int) ^ k - 1) = ((2 ^ k - 1 : Nat) : Int) := by rw [Int.natCast_sub hp1]; simp
    rw [this, Int.toNat_natCast]
  have e2 : (BitVec.ofInt 64 x).toNat = (x % 2 ^ 64).toNat := by simp [BitVec.toNat_ofInt]
  have e3 : ((BitVec.ofInt 64 x) &&& (BitVec.ofInt 64 (2 ^ k - 1))).toNat = (x % 2 ^ 64).toNat % 2 ^ k := by
    rw [BitVec.toNat_and, e1, e2, Nat.and_two_pow_sub_one_eq_mod]
  show wr .i64 (((BitVec.ofInt 64 x) &&& (BitVec.ofInt 64 (2 ^ k - 1))).toNat : Int) = _
  rw [e3, wr_nat_i64 (Nat.lt_trans (Nat.mod_lt _ (by omega)) hp)]
  rw [Int.natCast_emod, Int.toNat_of_nonneg (Int.emod_nonneg _ (by decide))]
  have hd : ((2 ^ k : Nat) : Int) ∣ 2 ^ 64 := by
    have : (2 : Nat) ^ k ∣ 2 ^ 64 := Nat.pow_dvd_pow 2 (by omega)
    exact_mod_cast this
  rw [Int.emod_emod_of_dvd _ hd]; simp

def zig (n : Int) : Int := if n < 0 then wr .i64 (wr .i64 (-2 * n) - 1) else wr .i64 (2 * n)
def zag (n : Int) : Int := if n < 0 then 0 else if n % 2 = 1 then -(n / 2) - 1 else n / 2
theorem zig_c {R : Env} (h : N168 R) (n : Int) : R.Pc 168 [.int .i64 n] (.int .i64 (zig n)) :=
  h.o168.enter 60 rfl fun X bb hfit hp => by
    unfold zig
    repeat ((intro _u; clear _u); first | with_reducible first | refine cT ?_ | refine cF ?_ | refine cA ?_ | refine cB ?_ | refine aLn ?_ | refine cK ?_ | refine aS8 ?_ | refine wI ?_ | refine nD ?_ | refine aX rfl ?_)
    intro _u; clear _u
    refine cS (fun h1 => ?_) (fun h1 => ?_)
    · rw [if_pos h1]
      repeat ((intro _u; clear _u); first | with_reducible first | refine cT ?_ | refine cF ?_ | refine cA ?_ | refine cB ?_ | refine aLn ?_ | refine cK ?_ | refine aS8 ?_ | refine wI ?_ | refine nD ?_ | refine aX rfl ?_)
      intro _u; clear _u
      refine iwr_any ?_
      repeat ((intro _u; clear _u); first | with_reducible first | refine cT ?_ | refine cF ?_ | refine cA ?_ | refine cB ?_ | refine aLn ?_ | refine cK ?_ | refine aS8 ?_ | refine wI ?_ | refine nD ?_ | refine aX rfl ?_)
      intro _u; clear _u
      refine iwr_any ?_
      repeat ((intro _u; clear _u); first | with_reducible first | refine cT ?_ | refine cF ?_ | refine cA ?_ | refine cB ?_ | refine aLn ?_ | refine cK ?_ | refine aS8 ?_ | refine wI ?_ | refine nD ?_ | refine aX rfl ?_)
      intro _u; clear _u
      exact rT
    · rw [if_neg (by omega)]
      repeat ((intro _u; clear _u); first | with_reducible first | refine cT ?_ | refine cF ?_ | refine cA ?_ | refine cB ?_ | refine aLn ?_ | refine cK ?_ | refine aS8 ?_ | refine wI ?_ | refine nD ?_ | refine aX rfl ?_)
      intro _u; clear _u
      refine iwr_any ?_
      repeat ((intro _u; clear _u); first | with_reducible first | refine cT ?_ | refine cF ?_ | refine cA ?_ | refine cB ?_ | refine aLn ?_ | refine cK ?_ | refine aS8 ?_ | refine wI ?_ | refine nD ?_ | refine aX rfl ?_)
      intro _u; clear _u
      exact rT
theorem zag_c {R : Env} (h : N169 R) (n : Int) (hn : inI .i64 n) : R.Pc 169 [.int .i64 n] (.int .i64 (zag n)) :=
  h.o169.enter 60 rfl fun X bb hfit hp => by
    have hn' := hn
    simp only [inI] at hn'
    unfold zag
    repeat ((intro _u; clear _u); first | with_reducible first | refine cT ?_ | refine cF ?_ | refine cA ?_ | refine cB ?_ | refine aLn ?_ | refine cK ?_ | refine aS8 ?_ | refine wI ?_ | refine nD ?_ | refine aX rfl ?_)
    intro _u; clear _u
    refine cS (fun h1 => ?_) (fun h1 => ?_)
    · rw [if_pos h1]
      repeat ((intro _u; clear _u); first | with_reducible first | refine cT ?_ | refine cF ?_ | refine cA ?_ | refine cB ?_ | refine aLn ?_ | refine cK ?_ | refine aS8 ?_ | refine wI ?_ | refine nD ?_ | refine aX rfl ?_)
      intro _u; clear _u
      exact rT
    · rw [if_neg (by omega)]
      have e1 : bit2 .and .i64 n 1 = n % 2 := and_low 1 (by decide) hn
      have hn0 : 0 ≤ n := by omega
      have e2 : shrI .i64 n 1 = n / 2 := by rw [shr_eq hn0]; rfl
      repeat ((intro _u; clear _u); first | with_reducible first | refine cT ?_ | refine cF ?_ | refine cA ?_ | refine cB ?_ | refine aLn ?_ | refine cK ?_ | refine aS8 ?_ | refine wI ?_ | refine nD ?_ | refine aX rfl ?_)
      intro _u; clear _u
      refine cS (fun h2 => ?_) (fun h2 => ?_)
      · rw [e1] at h2
        rw [if_pos h2]
        repeat ((intro _u; clear _u); first | with_reducible first | refine cT ?_ | refine cF ?_ | refine cA ?_ | refine cB ?_ | refine aLn ?_ | refine cK ?_ | refine aS8 ?_ | refine wI ?_ | refine nD ?_ | refine aX rfl ?_)
        intro _u; clear _u
        exact rT
      · rw [e1] at h2
        rw [if_neg h2]
        rw [← e2]
        repeat ((intro _u; clear _u); first | with_reducible first | refine cT ?_ | refine cF ?_ | refine cA ?_ | refine cB ?_ | refine aLn ?_ | refine cK ?_ | refine aS8 ?_ | refine wI ?_ | refine nD ?_ | refine aX rfl ?_)
        intro _u; clear _u
        exact rT

/-! ### What is expected -/
def exM (R : Env) (p : Pl) : IMem := [(0, .var (R.ty 20) p.row), (1, .var (R.ty 10) [.int .i64 (p.w * p.deep)])]
theorem expected_c {R : Env} (h : N182 R) (p : Pl) (hw : 1 ≤ p.w ∧ p.w ≤ 64) (hd : 1 ≤ p.deep ∧ p.deep ≤ 4) : R.Mc 182 [.agg p.row] [] (R.cl 188 [.loc 1 1 0 0, .loc 0 1 0 0]) (exM R p) 2 :=
  h.o182.enterM 60 0 rfl rfl rfl fun X bb hfit hp => by
    have b1 : 0 ≤ p.w * p.deep ∧ p.w * p.deep ≤ 256 := ⟨Int.mul_nonneg (by omega) (by omega), by have := Int.mul_le_mul hw.2 hd.2 (by omega) (by omega); omega⟩
    repeat ((intro _u; clear _u); first | with_reducible first | refine cT ?_ | refine cF ?_ | refine cA ?_ | refine cB ?_ | refine aLn ?_ | refine cK ?_ | refine aS8 ?_ | refine wI ?_ | refine nD ?_ | refine aX rfl ?_)
    intro _u; clear _u
    exact rM [0, 1]

/-- What stands at a place. -/
def atp (d : List Int) (i : Int) : Int := d.getD i.toNat 0
def exv (p : Pl) (d : List Int) (i : Int) : Int :=
  if p.deep ≤ i % (p.w * p.deep) ∧ p.w * p.deep ≤ i then atp d (i - p.deep) + atp d (i - p.w * p.deep) - atp d (i - p.w * p.deep - p.deep)
  else if p.deep ≤ i % (p.w * p.deep) then atp d (i - p.deep)
  else if p.w * p.deep ≤ i then atp d (i - p.w * p.deep) else 0

theorem atp_get {d : List Int} {k : Int} {x : Int} (h : d[k.toNat]? = some x) : atp d k = x := by simp [atp, List.getD_eq_getElem?_getD, h]
theorem mod_le (a : Int) {r : Int} (hr : 0 < r) (ha : 0 ≤ a) : a % r ≤ a ∧ (r ≤ a → a % r ≤ a - r) := by
  have h1 := Int.mul_ediv_add_emod a r
  have h2 : 0 ≤ a / r := Int.ediv_nonneg ha (by omega)
  have h3 : 0 ≤ r * (a / r) := Int.mul_nonneg (by omega) h2
  refine ⟨by omega, fun h => ?_⟩
  have h4 : 1 ≤ a / r := by rw [Int.le_ediv_iff_mul_le hr]; omega
  have h5 : r * 1 ≤ r * (a / r) := Int.mul_le_mul_of_nonneg_left h4 (by omega)
  omega

theorem ex_c {R : Env} (h : N188 R) (p : Pl) (hw : 1 ≤ p.w ∧ p.w ≤ 64) (hd : 1 ≤ p.deep ∧ p.deep ≤ 4) (d : List Int) (hd0 : ∀ x ∈ d, 0 ≤ x ∧ x ≤ 65535) (i : Nat) (hi : i ≤ d.length) (hl : d.length ≤ 16384) :
    R.Mc 188 [.isl 1 (slcK .i64 d), .int .i64 i, .loc 1 1 0 0, .loc 0 1 0 0] (exM R p) (.int .i64 (exv p d i)) (exM R p) 2 :=
  h.o188.enterM 60 2 rfl rfl rfl fun X bb hfit hp => by
    have b0 : 0 < p.w * p.deep := Int.mul_pos (by omega) (by omega)
    have b1 : p.w * p.deep ≤ 256 := by have := Int.mul_le_mul hw.2 hd.2 (by omega) (by omega); omega
    have b2 : (i : Int).tmod (p.w * p.deep) = (i : Int) % (p.w * p.deep) := Int.tmod_eq_emod_of_nonneg (by omega)
    have b3 := Int.emod_nonneg (i : Int) (show p.w * p.deep ≠ 0 by omega)
    have b4 := mod_le (i : Int) b0 (by omega)
    unfold exv
    repeat ((intro _u; clear _u); first | with_reducible first | refine cT ?_ | refine cF ?_ | refine cA ?_ | refine cB ?_ | refine aLn ?_ | refine cK ?_ | refine aS8 ?_ | refine wI ?_ | refine nD ?_ | refine aX rfl ?_)
    intro _u; clear _u
    refine cS (fun h1 => ?_) (fun h1 => ?_)
    · rw [b2] at h1
      repeat ((intro _u; clear _u); first | with_reducible first | refine cT ?_ | refine cF ?_ | refine cA ?_ | refine cB ?_ | refine aLn ?_ | refine cK ?_ | refine aS8 ?_ | refine wI ?_ | refine nD ?_ | refine aX rfl ?_)
      intro _u; clear _u
      refine cS (fun h2 => ?_) (fun h2 => ?_)
      · rw [if_pos ⟨h1, h2⟩]
        have b5 := b4.2 h2
        obtain ⟨x, hx⟩ : ∃ u_, d[((i:Int)-p.deep).toNat]? = some u_ := ⟨_, List.getElem?_eq_getElem (by first | omega | (simp <;> omega))⟩
        repeat ((intro _u; clear _u); first | with_reducible first | refine cT ?_ | refine cF ?_ | refine cA ?_ | refine cB ?_ | refine aLn ?_ | refine cK ?_ | refine aS8 ?_ | refine wI ?_ | refine nD ?_ | refine aX rfl ?_)
        intro _u; clear _u
        refine eget_map hx ?_
        have x1 := hd0 x (List.mem_of_getElem? hx)
        obtain ⟨y, hy⟩ : ∃ u_, d[((i:Int)-p.w*p.deep).toNat]? = some u_ := ⟨_, List.getElem?_eq_getElem (by first | omega | (simp <;> omega))⟩
        repeat ((intro _u; clear _u); first | with_reducible first | refine cT ?_ | refine cF ?_ | refine cA ?_ | refine cB ?_ | refine aLn ?_ | refine cK ?_ | refine aS8 ?_ | refine wI ?_ | refine nD ?_ | refine aX rfl ?_)
        intro _u; clear _u
        refine eget_map hy ?_
        have y1 := hd0 y (List.mem_of_getElem? hy)
        obtain ⟨z, hz⟩ : ∃ u_, d[((i:Int)-p.w*p.deep-p.deep).toNat]? = some u_ := ⟨_, List.getElem?_eq_getElem (by first | omega | (simp <;> omega))⟩
        repeat ((intro _u; clear _u); first | with_reducible first | refine cT ?_ | refine cF ?_ | refine cA ?_ | refine cB ?_ | refine aLn ?_ | refine cK ?_ | refine aS8 ?_ | refine wI ?_ | refine nD ?_ | refine aX rfl ?_)
        intro _u; clear _u
        refine eget_map hz ?_
        have z1 := hd0 z (List.mem_of_getElem? hz)
        rw [atp_get hx, atp_get hy, atp_get hz]
        repeat ((intro _u; clear _u); first | with_reducible first | refine cT ?_ | refine cF ?_ | refine cA ?_ | refine cB ?_ | refine aLn ?_ | refine cK ?_ | refine aS8 ?_ | refine wI ?_ | refine nD ?_ | refine aX rfl ?_)
        intro _u; clear _u
        exact rM [0, 1]
      · rw [if_neg (by omega), if_pos h1]
        repeat ((intro _u; clear _u); first | with_reducible first | refine cT ?_ | refine cF ?_ | refine cA ?_ | refine cB ?_ | refine aLn ?_ | refine cK ?_ | refine aS8 ?_ | refine wI ?_ | refine nD ?_ | refine aX rfl ?_)
        intro _u; clear _u
        refine acnd_t (by rw [b2]; simpa using h1) ?_
        obtain ⟨x, hx⟩ : ∃ u_, d[((i:Int)-p.deep).toNat]? = some u_ := ⟨_, List.getElem?_eq_getElem (by first | omega | (simp <;> omega))⟩
        repeat ((intro _u; clear _u); first | with_reducible first | refine cT ?_ | refine cF ?_ | refine cA ?_ | refine cB ?_ | refine aLn ?_ | refine cK ?_ | refine aS8 ?_ | refine wI ?_ | refine nD ?_ | refine aX rfl ?_)
        intro _u; clear _u
        refine eget_map hx ?_
        rw [atp_get hx]
        repeat ((intro _u; clear _u); first | with_reducible first | refine cT ?_ | refine cF ?_ | refine cA ?_ | refine cB ?_ | refine aLn ?_ | refine cK ?_ | refine aS8 ?_ | refine wI ?_ | refine nD ?_ | refine aX rfl ?_)
        intro _u; clear _u
        exact rM [0, 1]
    · rw [b2] at h1
      repeat ((intro _u; clear _u); first | with_reducible first | refine cT ?_ | refine cF ?_ | refine cA ?_ | refine cB ?_ | refine aLn ?_ | refine cK ?_ | refine aS8 ?_ | refine wI ?_ | refine nD ?_ | refine aX rfl ?_)
      intro _u; clear _u
      refine acnd_f (by rw [b2]; simpa using h1) ?_
      repeat ((intro _u; clear _u); first | with_reducible first | refine cT ?_ | refine cF ?_ | refine cA ?_ | refine cB ?_ | refine aLn ?_ | refine cK ?_ | refine aS8 ?_ | refine wI ?_ | refine nD ?_ | refine aX rfl ?_)
      intro _u; clear _u
      refine cS (fun h2 => ?_) (fun h2 => ?_)
      · rw [if_neg (by omega), if_neg (by omega), if_pos h2]
        obtain ⟨y, hy⟩ : ∃ u_, d[((i:Int)-p.w*p.deep).toNat]? = some u_ := ⟨_, List.getElem?_eq_getElem (by first | omega | (simp <;> omega))⟩
        repeat ((intro _u; clear _u); first | with_reducible first | refine cT ?_ | refine cF ?_ | refine cA ?_ | refine cB ?_ | refine aLn ?_ | refine cK ?_ | refine aS8 ?_ | refine wI ?_ | refine nD ?_ | refine aX rfl ?_)
        intro _u; clear _u
        refine eget_map hy ?_
        rw [atp_get hy]
        repeat ((intro _u; clear _u); first | with_reducible first | refine cT ?_ | refine cF ?_ | refine cA ?_ | refine cB ?_ | refine aLn ?_ | refine cK ?_ | refine aS8 ?_ | refine wI ?_ | refine nD ?_ | refine aX rfl ?_)
        intro _u; clear _u
        exact rM [0, 1]
      · rw [if_neg (by omega), if_neg (by omega), if_neg (by omega)]
        repeat ((intro _u; clear _u); first | with_reducible first | refine cT ?_ | refine cF ?_ | refine cA ?_ | refine cB ?_ | refine aLn ?_ | refine cK ?_ | refine aS8 ?_ | refine wI ?_ | refine nD ?_ | refine aX rfl ?_)
        intro _u; clear _u
        exact rM [0, 1]

/-! ### Deltas -/
theorem atp_in {d : List Int} (hd : ∀ x ∈ d, 0 ≤ x ∧ x ≤ 65535) (i : Int) : 0 ≤ atp d i ∧ atp d i ≤ 65535 := by
  unfold atp
  rw [List.getD_eq_getElem?_getD]
  cases h : d[i.toNat]? with
  | none => simp
  | some x => simpa using hd x (List.mem_of_getElem? h)
theorem exv_in {p : Pl} {d : List Int} (hd : ∀ x ∈ d, 0 ≤ x ∧ x ≤ 65535) (i : Int) : -65535 ≤ exv p d i ∧ exv p d i ≤ 131070 := by
  unfold exv
  have h1 := atp_in hd (i - p.deep)
  have h2 := atp_in hd (i - p.w * p.deep)
  have h3 := atp_in hd (i - p.w * p.deep - p.deep)
  repeat' split
  all_goals omega

def dl1 (p : Pl) (i : Nat) : Int := (atp p.data i - exv p p.data i + 32768) % 65536 - 32768
def dlt (p : Pl) : List Int := (List.range p.data.length).map (dl1 p)
def deltas (p : Pl) : List Int × Int := if pchk p = 0 then (dlt p, 0) else ([], pchk p)

structure Pl.May (p : Pl) : Prop where
  w : 1 ≤ p.w ∧ p.w ≤ 64
  h : 1 ≤ p.h ∧ p.h ≤ 64
  deep : 1 ≤ p.deep ∧ p.deep ≤ 4
  name : named p.name = true
  len : (p.data.length : Int) = p.w * p.h * p.deep
  data : ∀ x ∈ p.data, 0 ≤ x ∧ x ≤ 65535
theorem pchk_may {p : Pl} (h : pchk p = 0) : p.May := by
  unfold pchk at h
  split at h
  · cases h
  · split at h
    · cases h
    · split at h
      · cases h
      · rename_i h1 h2 h3
        simp only [Bool.not_eq_false, List.all_eq_true, Bool.and_eq_true, decide_eq_true_eq] at h3
        refine ⟨by omega, by omega, by omega, ?_, by omega, h3⟩
        cases hn : named p.name with
        | true => rfl
        | false => exact absurd (.inl hn) h2
theorem Pl.May.few {p : Pl} (h : p.May) : p.data.length ≤ 16384 := by
  have b1 : p.w * p.h ≤ 4096 := by have := Int.mul_le_mul h.w.2 h.h.2 (by have := h.h.1; omega) (by omega); omega
  have b2 : p.w * p.h * p.deep ≤ 16384 := by have := Int.mul_le_mul b1 h.deep.2 (by have := h.deep.1; omega) (by omega); omega
  have := h.len
  omega

@[simp] theorem dlt_len (p : Pl) : (dlt p).length = p.data.length := by simp [dlt]
theorem fill_get {l : List Int} {k m : Nat} {v : Int} (h : (l.take k).length = k ∧ 0 < m) : (l.take k ++ List.replicate m v)[k]? = some v := by
  rw [List.getElem?_append_right (by omega), h.1, Nat.sub_self, List.getElem?_replicate, if_pos h.2]
theorem set_fill {kk : IntKind} {l : List Int} {k n : Nat} {v : Int} (h : k < l.length ∧ l.length = n) (hv : l[k]? = some v) : (slcK kk (l.take k ++ List.replicate (n - k) 0)).set k [.int kk v] = slcK kk (l.take (k + 1) ++ List.replicate (n - (k + 1)) 0) := by
  have e : n - k = (n - (k + 1)) + 1 := by omega
  have ht : (l.take k).length = k := by simp; omega
  unfold slcK
  rw [← List.map_set (f := fun x => [AV.int kk x]), List.set_append_right _ _ (by omega), ht, Nat.sub_self, e, List.replicate_succ, List.set_cons_zero, take_succ_get hv]
  simp

theorem deltas_c {R : Env} (h : N165 R) (p : Pl) (hs : p.name.length ≤ 1073741824) : R.Pc 165 [.agg p.row] (.tup [.isl 1 (slcK .i64 (deltas p).1), .int .i64 (deltas p).2]) :=
  h.o165.enter 100 rfl fun X bb hfit hp => by
    repeat ((intro _u; clear _u); first | with_reducible first | refine cT ?_ | refine cF ?_ | refine cA ?_ | refine cB ?_ | refine aLn ?_ | refine cK ?_ | refine aS8 ?_ | refine wI ?_ | refine nD ?_ | refine aX rfl ?_)
    intro _u; clear _u
    refine ICall.pure h.n153.o153.hb (pcheck_c h.n153 p hs) rfl ?_
    repeat ((intro _u; clear _u); first | with_reducible first | refine cT ?_ | refine cF ?_ | refine cA ?_ | refine cB ?_ | refine aLn ?_ | refine cK ?_ | refine aS8 ?_ | refine wI ?_ | refine nD ?_ | refine aX rfl ?_)
    intro _u; clear _u
    refine cS (fun h1 => ?_) (fun h1 => ?_)
    · rw [deltas, if_neg h1]
      repeat ((intro _u; clear _u); first | with_reducible first | refine cT ?_ | refine cF ?_ | refine cA ?_ | refine cB ?_ | refine aLn ?_ | refine cK ?_ | refine aS8 ?_ | refine wI ?_ | refine nD ?_ | refine aX rfl ?_)
      intro _u; clear _u
      exact rT
    · have hc : pchk p = 0 := by omega
      rw [deltas, if_pos hc]
      have may := pchk_may hc
      have hfew := may.few
      repeat ((intro _u; clear _u); first | with_reducible first | refine cT ?_ | refine cF ?_ | refine cA ?_ | refine cB ?_ | refine aLn ?_ | refine cK ?_ | refine aS8 ?_ | refine wI ?_ | refine nD ?_ | refine aX rfl ?_)
      intro _u; clear _u
      refine cM false [] (expected_c h.n182 p may.w may.deep) ?_
      repeat ((intro _u; clear _u); first | refine eK ?_ | refine eP ?_)
      repeat ((intro _u; clear _u); first | with_reducible first | refine cT ?_ | refine cF ?_ | refine cA ?_ | refine cB ?_ | refine aLn ?_ | refine cK ?_ | refine aS8 ?_ | refine wI ?_ | refine nD ?_ | refine aX rfl ?_)
      intro _u; clear _u
      refine amk_n p.data.length rfl rfl (by omega) ?_
      repeat ((intro _u; clear _u); first | with_reducible first | refine cT ?_ | refine cF ?_ | refine cA ?_ | refine cB ?_ | refine aLn ?_ | refine cK ?_ | refine aS8 ?_ | refine wI ?_ | refine nD ?_ | refine aX rfl ?_)
      intro _u; clear _u
      refine ILoop.inv 100 (fun k : Nat => k ≤ p.data.length) (fun k => ⟨[(1, .loc 0 1 0 0), (5, R.cl 188 [.loc 2 1 0 0, .loc 1 1 0 0]), (6, .osl 3 p.data.length), (21, .isl 1 (slcK .i64 p.data)), (22, .int .i64 p.data.length), (23, .int .i64 k)], [(3, .arr (R.ty 10) 1 (slcK .i64 ((dlt p).take k ++ List.replicate (p.data.length - k) 0))), (2, .var (R.ty 10) [.int .i64 (p.w * p.deep)]), (1, .var (R.ty 20) p.row), (0, .var (R.ty 20) p.row)], 4⟩) (fun k => p.data.length - k) (0) ?_ ⟨⟨_, hp, rfl⟩, ?_, ?_⟩ ?_
      · exact Nat.zero_le _
      · all_goals repeat' (first | exact True.intro | refine And.intro ?_ ?_ | (intro _u; clear _u) | with_reducible first | refine eM ?_ ?_ | refine eF ?_ ?_ ?_ | refine eN ?_ | refine eL ?_ ?_ ?_ | refine eA ?_ ?_ | refine IWk.mk ⟨_, hp, rfl⟩ ?_ ?_)
        all_goals first | with_reducible rfl | omega | exact Or.inl (by decide) | (simp; done) | rfl | skip
      · all_goals repeat' (first | exact True.intro | refine And.intro ?_ ?_ | (intro _u; clear _u) | with_reducible first | refine eM ?_ ?_ | refine eF ?_ ?_ ?_ | refine eN ?_ | refine eL ?_ ?_ ?_ | refine eA ?_ ?_ | refine IWk.mk ⟨_, hp, rfl⟩ ?_ ?_)
        all_goals first | with_reducible rfl | omega | exact Or.inl (by decide) | (simp; done) | rfl | skip
        simp [slcK]
      · intro k hk
        dsimp only
        repeat ((intro _u; clear _u); first | with_reducible first | refine cT ?_ | refine cF ?_ | refine cA ?_ | refine cB ?_ | refine aLn ?_ | refine cK ?_ | refine aS8 ?_ | refine wI ?_ | refine nD ?_ | refine aX rfl ?_)
        intro _u; clear _u
        refine cS (fun h2 => ?_) (fun h2 => ?_)
        · obtain ⟨x, hx⟩ : ∃ u_, p.data[k]? = some u_ := ⟨_, List.getElem?_eq_getElem (by first | omega | (simp <;> omega))⟩
          repeat ((intro _u; clear _u); first | with_reducible first | refine cT ?_ | refine cF ?_ | refine cA ?_ | refine cB ?_ | refine aLn ?_ | refine cK ?_ | refine aS8 ?_ | refine wI ?_ | refine nD ?_ | refine aX rfl ?_)
          intro _u; clear _u
          refine eget_map hx ?_
          have x1 := may.data x (List.mem_of_getElem? hx)
          have e1 := exv_in may.data (p := p) (k : Int)
          repeat ((intro _u; clear _u); first | with_reducible first | refine cT ?_ | refine cF ?_ | refine cA ?_ | refine cB ?_ | refine aLn ?_ | refine cK ?_ | refine aS8 ?_ | refine wI ?_ | refine nD ?_ | refine aX rfl ?_)
          intro _u; clear _u
          refine cM false [1, 2] (ex_c h.n182.n188 p may.w may.deep p.data may.data k hk (by omega)) ?_
          repeat ((intro _u; clear _u); first | refine eK ?_ | refine eP ?_)
          have e2 : bit2 .and .i64 (x - exv p p.data k + 32768) 65535 = (x - exv p p.data k + 32768) % 65536 := and_low 16 (by decide) (by simp only [inI]; omega)
          repeat ((intro _u; clear _u); first | with_reducible first | refine cT ?_ | refine cF ?_ | refine cA ?_ | refine cB ?_ | refine aLn ?_ | refine cK ?_ | refine aS8 ?_ | refine wI ?_ | refine nD ?_ | refine aX rfl ?_)
          intro _u; clear _u
          refine aelt_map (by simp; omega) (fill_get (v := 0) (by simp; omega)) ?_
          repeat ((intro _u; clear _u); first | with_reducible first | refine cT ?_ | refine cF ?_ | refine cA ?_ | refine cB ?_ | refine aLn ?_ | refine cK ?_ | refine aS8 ?_ | refine wI ?_ | refine nD ?_ | refine aX rfl ?_)
          intro _u; clear _u
          refine nX (k + 1) ?_ ?_ ⟨_, hp, rfl⟩ ?_ ?_
          · omega
          · omega
          · all_goals repeat' (first | exact True.intro | refine And.intro ?_ ?_ | (intro _u; clear _u) | with_reducible first | refine eM ?_ ?_ | refine eF ?_ ?_ ?_ | refine eN ?_ | refine eL ?_ ?_ ?_ | refine eA ?_ ?_ | refine IWk.mk ⟨_, hp, rfl⟩ ?_ ?_)
            all_goals first | with_reducible rfl | omega | exact Or.inl (by decide) | (simp; done) | rfl | skip
          · all_goals repeat' (first | exact True.intro | refine And.intro ?_ ?_ | (intro _u; clear _u) | with_reducible first | refine eM ?_ ?_ | refine eF ?_ ?_ ?_ | refine eN ?_ | refine eL ?_ ?_ ?_ | refine eA ?_ ?_ | refine IWk.mk ⟨_, hp, rfl⟩ ?_ ?_)
            all_goals first | with_reducible rfl | omega | exact Or.inl (by decide) | (simp; done) | rfl | skip
            refine set_fill (by simp; omega) ?_
            have : (dlt p)[k]? = some (dl1 p k) := by
              rw [dlt, List.getElem?_map, List.getElem?_range (by omega)]; rfl
            rw [this, e2, dl1, atp_get (k := (k : Int)) hx]
        · rw [List.take_of_length_le (by simp; omega), show p.data.length - k = 0 by omega]
          repeat ((intro _u; clear _u); first | with_reducible first | refine cT ?_ | refine cF ?_ | refine cA ?_ | refine cB ?_ | refine aLn ?_ | refine cK ?_ | refine aS8 ?_ | refine wI ?_ | refine nD ?_ | refine aX rfl ?_)
          intro _u; clear _u
          exact rT
end Go.UM

/- Package pack, part 2: short numbers; a plane packed. -/

namespace Go.UM
open Go.AM
set_option maxRecDepth 4000

def hib (n : Nat) : UInt8 := u8 (bit2 .or .u8 (wr .u8 n) 128)
def short (n : Nat) : List UInt8 := if h : n < 128 then [u8 n] else hib n :: short (n / 128)
decreasing_by omega
theorem short_small {n : Nat} (h : n < 128) : short n = [u8 n] := by rw [short, dif_pos h]
theorem short_big {n : Nat} (h : 128 ≤ n) : short n = hib n :: short (n / 128) := by rw [short, dif_neg (by omega)]
theorem short_pos (n : Nat) : 1 ≤ (short n).length := by
  rw [short]; split <;> simp
theorem hib_val (n : Nat) : ((hib n).toNat : Int) = bit2 .or .u8 (wr .u8 n) 128 := by
  unfold hib
  rw [← wr_u8]
  show wr .u8 (wr .u8 _) = wr .u8 _
  rw [wr_in (k := .u8)]
  rw [wr_u8]
  have := (u8 (((BitVec.ofInt (IntKind.bits .u8) (wr .u8 n)) ||| (BitVec.ofInt (IntKind.bits .u8) 128)).toNat : Int)).toNat_lt
  simp only [inI]; omega

theorem short_c {R : Env} (h : N187 R) (b : List UInt8) (n : Nat) (hn : n ≤ 4611686018427387903) (hl : (b ++ short n).length ≤ 1073741824) :
    R.Mc 187 [.osl 0 b.length, .int .i64 n] [(0, .arr (R.ty 4) 1 (slc8 b))] (.osl 0 (b ++ short n).length) [(0, .arr (R.ty 4) 1 (slc8 (b ++ short n)))] 1 :=
  h.o187.enterM 100 1 rfl rfl rfl fun X bb hfit hp => by
    repeat ((intro _u; clear _u); first | with_reducible first | refine cT ?_ | refine cF ?_ | refine cA ?_ | refine cB ?_ | refine aLn ?_ | refine cK ?_ | refine aS8 ?_ | refine wI ?_ | refine nD ?_ | refine aX rfl ?_)
    intro _u; clear _u
    refine lPa 100 (fun s : List UInt8 × Nat => s.1 ++ short s.2 = b ++ short n ∧ s.2 ≤ n) (fun s => ⟨[(0, .osl 0 s.1.length), (1, .int .i64 s.2)], [(0, .arr (R.ty 4) 1 (slc8 s.1))], 1⟩) (fun s => s.2) ((b, n)) ?_ ?_
    · exact ⟨rfl, Nat.le_refl _⟩
    · intro s hs
      obtain ⟨c, m⟩ := s
      obtain ⟨hs1, hs2⟩ := hs
      dsimp only at hs1 hs2 ⊢
      have hp1 := short_pos m
      have hcl : c.length + (short m).length ≤ 1073741824 := by rw [← List.length_append, hs1]; exact hl
      repeat ((intro _u; clear _u); first | with_reducible first | refine cT ?_ | refine cF ?_ | refine cA ?_ | refine cB ?_ | refine aLn ?_ | refine cK ?_ | refine aS8 ?_ | refine wI ?_ | refine nD ?_ | refine aX rfl ?_)
      intro _u; clear _u
      refine cS (fun h1 => ?_) (fun h1 => ?_)
      · rw [short_big (by omega)] at hs1
        repeat ((intro _u; clear _u); first | with_reducible first | refine cT ?_ | refine cF ?_ | refine cA ?_ | refine cB ?_ | refine aLn ?_ | refine cK ?_ | refine aS8 ?_ | refine wI ?_ | refine nD ?_ | refine aX rfl ?_)
        intro _u; clear _u
        refine iwr_any ?_
        repeat ((intro _u; clear _u); first | with_reducible first | refine cT ?_ | refine cF ?_ | refine cA ?_ | refine cB ?_ | refine aLn ?_ | refine cK ?_ | refine aS8 ?_ | refine wI ?_ | refine nD ?_ | refine aX rfl ?_)
        intro _u; clear _u
        refine nX ((c ++ [hib m], m / 128)) ?_ ?_ ⟨_, hp, rfl⟩ ?_ ?_
        · exact ⟨by simpa using hs1, by dsimp only; omega⟩
        · dsimp only; omega
        · all_goals repeat' (first | exact True.intro | refine And.intro ?_ ?_ | (intro _u; clear _u) | with_reducible first | refine eM ?_ ?_ | refine eF ?_ ?_ ?_ | refine eN ?_ | refine eL ?_ ?_ ?_ | refine eA ?_ ?_ | refine IWk.mk ⟨_, hp, rfl⟩ ?_ ?_)
          all_goals first | with_reducible rfl | omega | exact Or.inl (by decide) | (simp; done) | rfl | skip
          rw [shr_eq (by omega)]
          show (m : Int) / 128 = ((m / 128 : Nat) : Int)
          omega
        · all_goals repeat' (first | exact True.intro | refine And.intro ?_ ?_ | (intro _u; clear _u) | with_reducible first | refine eM ?_ ?_ | refine eF ?_ ?_ ?_ | refine eN ?_ | refine eL ?_ ?_ ?_ | refine eA ?_ ?_ | refine IWk.mk ⟨_, hp, rfl⟩ ?_ ?_)
          all_goals first | with_reducible rfl | omega | exact Or.inl (by decide) | (simp; done) | rfl | skip
          simp [slc8, hib_val]
      · rw [short_small (by omega)] at hs1
        rw [← hs1]
        have hu : ((u8 m).toNat : Int) = m := u8_in (by omega)
        repeat ((intro _u; clear _u); first | with_reducible first | refine cT ?_ | refine cF ?_ | refine cA ?_ | refine cB ?_ | refine aLn ?_ | refine cK ?_ | refine aS8 ?_ | refine wI ?_ | refine nD ?_ | refine aX rfl ?_)
        intro _u; clear _u
        refine rM [0] ?_
        all_goals repeat' (first | exact True.intro | refine And.intro ?_ ?_ | (intro _u; clear _u) | with_reducible first | refine eM ?_ ?_ | refine eF ?_ ?_ ?_ | refine eN ?_ | refine eL ?_ ?_ ?_ | refine eA ?_ ?_ | refine IWk.mk ⟨_, hp, rfl⟩ ?_ ?_)
        all_goals first | with_reducible rfl | omega | exact Or.inl (by decide) | (simp; done) | rfl | skip
        simp [slc8, hu]

/-! ### A plane packed -/
def zrun (l : List Int) : Nat := (l.takeWhile (· == 0)).length
def pk : List Int → List UInt8
  | [] => []
  | x :: r => if x = 0 then 0 :: (short (zrun r) ++ pk (r.drop (zrun r))) else short (zig x).toNat ++ pk r
termination_by l => l.length
decreasing_by
  · simp; omega
  · simp
def hdr (p : Pl) : List UInt8 := [u8 p.w, u8 p.h, u8 p.deep, u8 p.name.length] ++ p.name
def packed (p : Pl) : List UInt8 × Int := if pchk p = 0 then (hdr p ++ pk (dlt p), 0) else ([], pchk p)

theorem dlt_in (p : Pl) : ∀ x ∈ dlt p, -32768 ≤ x ∧ x ≤ 32767 := by
  intro x hx
  obtain ⟨i, _, rfl⟩ := List.mem_map.1 hx
  unfold dl1
  omega
theorem zig_val {x : Int} (h : -32768 ≤ x ∧ x ≤ 32767) : zig x = if x < 0 then -2 * x - 1 else 2 * x := by
  unfold zig
  split
  · rw [show wr .i64 (-2 * x) = -2 * x from wr_in (k := .i64) (by simp only [inI]; omega), wr_in (k := .i64) (by simp only [inI]; omega)]
  · rw [wr_in (k := .i64) (by simp only [inI]; omega)]
theorem drop_got {α : Type} {l : List α} {k : Nat} {x : α} (h : l[k]? = some x) : l.drop k = x :: l.drop (k + 1) := by
  obtain ⟨hk, rfl⟩ := List.getElem?_eq_some_iff.1 h
  exact List.drop_eq_getElem_cons hk

theorem zrun_eq : ∀ {l : List Int} {m : Nat}, (∀ j, j < m → l[j]? = some 0) → l[m]? ≠ some 0 → zrun l = m
  | [], 0, _, _ => rfl
  | [], m + 1, h, _ => by have := h 0 (by omega); simp at this
  | x :: r, 0, _, h2 => by
    have : x ≠ 0 := by simpa using h2
    simp [zrun, List.takeWhile_cons, this]
  | x :: r, m + 1, h, h2 => by
    have hx : x = 0 := by simpa using h 0 (by omega)
    have := zrun_eq (l := r) (m := m) (fun j hj => by simpa using h (j + 1) (by omega)) (by simpa using h2)
    simp only [zrun] at this ⊢
    rw [List.takeWhile_cons, if_pos (by simp [hx]), List.length_cons, this]


theorem pack_c {R : Env} (h : N164 R) (p : Pl) (hs : p.name.length ≤ 1073741824) (hl : (packed p).1.length ≤ 1073741824) : R.Pc 164 [.agg p.row] (.tup [.isl 1 (slc8 (packed p).1), .int .i64 (packed p).2]) :=
  h.o164.enter 100 rfl fun X bb hfit hp => by
    by_cases hc : pchk p = 0
    · have e1 : deltas p = (dlt p, 0) := by rw [deltas, if_pos hc]
      have e2 : packed p = (hdr p ++ pk (dlt p), 0) := by rw [packed, if_pos hc]
      have c1 := deltas_c h.n165 p hs
      rw [e1] at c1
      rw [e2] at hl ⊢
      have may := pchk_may hc
      have mw := may.w
      have mh := may.h
      have md := may.deep
      have hnl : p.name.length ≤ 16 := by
        have := may.name
        simp [named] at this
        omega
      have hll : (dlt p).length ≤ 16384 := by rw [dlt_len]; exact may.few
      repeat ((intro _u; clear _u); first | with_reducible first | refine cT ?_ | refine cF ?_ | refine cA ?_ | refine cB ?_ | refine aLn ?_ | refine cK ?_ | refine aS8 ?_ | refine wI ?_ | refine nD ?_ | refine aX rfl ?_)
      intro _u; clear _u
      refine ICall.pure h.n165.o165.hb c1 rfl ?_
      repeat ((intro _u; clear _u); first | with_reducible first | refine cT ?_ | refine cF ?_ | refine cA ?_ | refine cB ?_ | refine aLn ?_ | refine cK ?_ | refine aS8 ?_ | refine wI ?_ | refine nD ?_ | refine aX rfl ?_)
      intro _u; clear _u
      refine acnd_f (by rfl) ?_
      have hLb : ∀ x ∈ dlt p, -32768 ≤ x ∧ x ≤ 32767 := dlt_in p
      generalize dlt p = L at *
      have w8 : ((u8 p.w).toNat : Int) = p.w := u8_in (by omega)
      have h8 : ((u8 p.h).toNat : Int) = p.h := u8_in (by omega)
      have d8 : ((u8 p.deep).toNat : Int) = p.deep := u8_in (by omega)
      have n8 : ((u8 p.name.length).toNat : Int) = p.name.length := u8_in (by omega)
      dsimp only at hl
      repeat ((intro _u; clear _u); first | with_reducible first | refine cT ?_ | refine cF ?_ | refine cA ?_ | refine cB ?_ | refine aLn ?_ | refine cK ?_ | refine aS8 ?_ | refine wI ?_ | refine nD ?_ | refine aX rfl ?_)
      intro _u; clear _u
      refine ILoop.inv 100 (fun s : List UInt8 × Nat => s.1 ++ pk (L.drop s.2) = hdr p ++ pk L ∧ s.2 ≤ L.length) (fun s => ⟨[(4, .isl 1 (slcK .i64 L)), (6, .osl 1 s.1.length), (7, .int .i64 s.2)], [(1, .arr (R.ty 4) 1 (slc8 s.1))], 2⟩) (fun s => L.length - s.2) ((hdr p, 0)) ?_ ⟨⟨_, hp, rfl⟩, ?_, ?_⟩ ?_
      · exact ⟨by simp, Nat.zero_le _⟩
      · all_goals repeat' (first | exact True.intro | refine And.intro ?_ ?_ | (intro _u; clear _u) | with_reducible first | refine eM ?_ ?_ | refine eF ?_ ?_ ?_ | refine eN ?_ | refine eL ?_ ?_ ?_ | refine eA ?_ ?_ | refine IWk.mk ⟨_, hp, rfl⟩ ?_ ?_)
        all_goals first | with_reducible rfl | omega | exact Or.inl (by decide) | (simp; done) | rfl | skip
        simp [hdr]
      · all_goals repeat' (first | exact True.intro | refine And.intro ?_ ?_ | (intro _u; clear _u) | with_reducible first | refine eM ?_ ?_ | refine eF ?_ ?_ ?_ | refine eN ?_ | refine eL ?_ ?_ ?_ | refine eA ?_ ?_ | refine IWk.mk ⟨_, hp, rfl⟩ ?_ ?_)
        all_goals first | with_reducible rfl | omega | exact Or.inl (by decide) | (simp; done) | rfl | skip
        simp [hdr, slc8, w8, h8, d8, n8]
      · intro s hs
        obtain ⟨c, i⟩ := s
        obtain ⟨hs1, hs2⟩ := hs
        dsimp only at hs1 hs2 ⊢
        repeat ((intro _u; clear _u); first | with_reducible first | refine cT ?_ | refine cF ?_ | refine cA ?_ | refine cB ?_ | refine aLn ?_ | refine cK ?_ | refine aS8 ?_ | refine wI ?_ | refine nD ?_ | refine aX rfl ?_)
        intro _u; clear _u
        refine cS (fun h1 => ?_) (fun h1 => ?_)
        · obtain ⟨x, hx⟩ : ∃ u_, L[i]? = some u_ := ⟨_, List.getElem?_eq_getElem (by first | omega | (simp <;> omega))⟩
          repeat ((intro _u; clear _u); first | with_reducible first | refine cT ?_ | refine cF ?_ | refine cA ?_ | refine cB ?_ | refine aLn ?_ | refine cK ?_ | refine aS8 ?_ | refine wI ?_ | refine nD ?_ | refine aX rfl ?_)
          intro _u; clear _u
          refine eget_map hx ?_
          have xb := hLb x (List.mem_of_getElem? hx)
          rw [drop_got hx] at hs1
          repeat ((intro _u; clear _u); first | with_reducible first | refine cT ?_ | refine cF ?_ | refine cA ?_ | refine cB ?_ | refine aLn ?_ | refine cK ?_ | refine aS8 ?_ | refine wI ?_ | refine nD ?_ | refine aX rfl ?_)
          intro _u; clear _u
          refine cS (fun h2 => ?_) (fun h2 => ?_)
          · rw [pk, if_neg h2, ← List.append_assoc] at hs1
            have c2 := zig_c h.n168 x
            have hzn : zig x = ((zig x).toNat : Int) := by rw [zig_val xb]; split <;> omega
            have hzl : (zig x).toNat ≤ 131072 := by rw [zig_val xb]; split <;> omega
            rw [hzn] at c2
            generalize (zig x).toNat = n at *
            have hcl : (c ++ short n).length ≤ 1073741824 := by rw [← hs1, List.length_append] at hl; omega
            repeat ((intro _u; clear _u); first | with_reducible first | refine cT ?_ | refine cF ?_ | refine cA ?_ | refine cB ?_ | refine aLn ?_ | refine cK ?_ | refine aS8 ?_ | refine wI ?_ | refine nD ?_ | refine aX rfl ?_)
            intro _u; clear _u
            refine eget_map hx ?_
            repeat ((intro _u; clear _u); first | with_reducible first | refine cT ?_ | refine cF ?_ | refine cA ?_ | refine cB ?_ | refine aLn ?_ | refine cK ?_ | refine aS8 ?_ | refine wI ?_ | refine nD ?_ | refine aX rfl ?_)
            intro _u; clear _u
            refine ICall.pure h.n168.o168.hb c2 rfl ?_
            repeat ((intro _u; clear _u); first | with_reducible first | refine cT ?_ | refine cF ?_ | refine cA ?_ | refine cB ?_ | refine aLn ?_ | refine cK ?_ | refine aS8 ?_ | refine wI ?_ | refine nD ?_ | refine aX rfl ?_)
            intro _u; clear _u
            refine cM false [1] (short_c h.n187 c n (by omega) hcl) ?_
            repeat ((intro _u; clear _u); first | refine eK ?_ | refine eP ?_)
            repeat ((intro _u; clear _u); first | with_reducible first | refine cT ?_ | refine cF ?_ | refine cA ?_ | refine cB ?_ | refine aLn ?_ | refine cK ?_ | refine aS8 ?_ | refine wI ?_ | refine nD ?_ | refine aX rfl ?_)
            intro _u; clear _u
            refine nXa ((c ++ short n, i + 1)) ?_ ?_
            · exact ⟨hs1, by dsimp only; omega⟩
            · dsimp only; omega
          · rw [pk, if_pos h2] at hs1
            repeat ((intro _u; clear _u); first | with_reducible first | refine cT ?_ | refine cF ?_ | refine cA ?_ | refine cB ?_ | refine aLn ?_ | refine cK ?_ | refine aS8 ?_ | refine wI ?_ | refine nD ?_ | refine aX rfl ?_)
            intro _u; clear _u
            refine lPa 100 (fun n : Nat => i + n ≤ L.length ∧ ∀ j, j < n → L[i + j]? = some 0) (fun n => ⟨[(4, .isl 1 (slcK .i64 L)), (6, .osl 1 c.length), (7, .int .i64 i), (8, .int .i64 n)], [(1, .arr (R.ty 4) 1 (slc8 c))], 2⟩) (fun n => L.length - n) (0) ?_ ?_
            · exact ⟨by omega, fun j hj => by omega⟩
            · intro n hn
              obtain ⟨hn1, hn2⟩ := hn
              dsimp only
              repeat ((intro _u; clear _u); first | with_reducible first | refine cT ?_ | refine cF ?_ | refine cA ?_ | refine cB ?_ | refine aLn ?_ | refine cK ?_ | refine aS8 ?_ | refine wI ?_ | refine nD ?_ | refine aX rfl ?_)
              intro _u; clear _u
              refine cS (fun h3 => ?_) (fun h3 => ?_)
              · obtain ⟨y, hy⟩ : ∃ u_, L[((i:Int)+n).toNat]? = some u_ := ⟨_, List.getElem?_eq_getElem (by first | omega | (simp <;> omega))⟩
                repeat ((intro _u; clear _u); first | with_reducible first | refine cT ?_ | refine cF ?_ | refine cA ?_ | refine cB ?_ | refine aLn ?_ | refine cK ?_ | refine aS8 ?_ | refine wI ?_ | refine nD ?_ | refine aX rfl ?_)
                intro _u; clear _u
                refine eget_map hy ?_
                rw [show ((i : Int) + n).toNat = i + n by omega] at hy
                repeat ((intro _u; clear _u); first | with_reducible first | refine cT ?_ | refine cF ?_ | refine cA ?_ | refine cB ?_ | refine aLn ?_ | refine cK ?_ | refine aS8 ?_ | refine wI ?_ | refine nD ?_ | refine aX rfl ?_)
                intro _u; clear _u
                refine cS (fun h4 => ?_) (fun h4 => ?_)
                · repeat ((intro _u; clear _u); first | with_reducible first | refine cT ?_ | refine cF ?_ | refine cA ?_ | refine cB ?_ | refine aLn ?_ | refine cK ?_ | refine aS8 ?_ | refine wI ?_ | refine nD ?_ | refine aX rfl ?_)
                  intro _u; clear _u
                  refine nXa (n + 1) ?_ ?_
                  · refine ⟨by omega, fun j hj => ?_⟩
                    by_cases e : j = n
                    · rw [e, hy, h4]
                    · exact hn2 j (by omega)
                  · omega
                · have hn0 : 1 ≤ n := by
                    rcases Nat.eq_zero_or_pos n with e | e
                    · rw [e, Nat.add_zero, hx] at hy
                      exact (h4 ((Option.some.inj hy).symm.trans h2)).elim
                    · exact e
                  have hz : zrun (L.drop (i + 1)) = n - 1 := zrun_eq (fun j hj => by rw [List.getElem?_drop, show i + 1 + j = i + (j + 1) by omega]; exact hn2 _ (by omega)) (by rw [List.getElem?_drop, show i + 1 + (n - 1) = i + n by omega, hy]; simpa using h4)
                  rw [hz, List.drop_drop, show i + 1 + (n - 1) = i + n by omega] at hs1
                  have hs3 : (c ++ [0] ++ short (n - 1)) ++ pk (L.drop (i + n)) = hdr p ++ pk L := by rw [← hs1]; simp
                  have hcl : (c ++ [0] ++ short (n - 1)).length ≤ 1073741824 := by rw [← hs3, List.length_append] at hl; omega
                  have hcl2 : c.length + 1 ≤ 1073741824 := by simp at hcl; omega
                  repeat ((intro _u; clear _u); first | with_reducible first | refine cT ?_ | refine cF ?_ | refine cA ?_ | refine cB ?_ | refine aLn ?_ | refine cK ?_ | refine aS8 ?_ | refine wI ?_ | refine nD ?_ | refine aX rfl ?_)
                  rw [show slc8 c ++ [[AV.int .u8 0]] = slc8 (c ++ [0]) by simp [slc8]]
                  repeat ((intro _u; clear _u); first | with_reducible first | refine cT ?_ | refine cF ?_ | refine cA ?_ | refine cB ?_ | refine aLn ?_ | refine cK ?_ | refine aS8 ?_ | refine wI ?_ | refine nD ?_ | refine aX rfl ?_)
                  intro _u; clear _u
                  refine cM false [1] (short_c h.n187 (c ++ [0]) (n - 1) (by omega) hcl) ?_
                  repeat ((intro _u; clear _u); first | refine eK ?_ | refine eP ?_)
                  repeat ((intro _u; clear _u); first | with_reducible first | refine cT ?_ | refine cF ?_ | refine cA ?_ | refine cB ?_ | refine aLn ?_ | refine cK ?_ | refine aS8 ?_ | refine wI ?_ | refine nD ?_ | refine aX rfl ?_)
                  intro _u; clear _u
                  refine nXa ((c ++ [0] ++ short (n - 1), i + n)) ?_ ?_
                  · exact ⟨hs3, by dsimp only; omega⟩
                  · dsimp only; omega
              · have hn0 : 1 ≤ n := by omega
                have hz : zrun (L.drop (i + 1)) = n - 1 := zrun_eq (fun j hj => by rw [List.getElem?_drop, show i + 1 + j = i + (j + 1) by omega]; exact hn2 _ (by omega)) (by rw [List.getElem?_drop, show i + 1 + (n - 1) = i + n by omega, List.getElem?_eq_none (by omega)]; simp)
                rw [hz, List.drop_drop, show i + 1 + (n - 1) = i + n by omega] at hs1
                have hs3 : (c ++ [0] ++ short (n - 1)) ++ pk (L.drop (i + n)) = hdr p ++ pk L := by rw [← hs1]; simp
                have hcl : (c ++ [0] ++ short (n - 1)).length ≤ 1073741824 := by rw [← hs3, List.length_append] at hl; omega
                have hcl2 : c.length + 1 ≤ 1073741824 := by simp at hcl; omega
                repeat ((intro _u; clear _u); first | with_reducible first | refine cT ?_ | refine cF ?_ | refine cA ?_ | refine cB ?_ | refine aLn ?_ | refine cK ?_ | refine aS8 ?_ | refine wI ?_ | refine nD ?_ | refine aX rfl ?_)
                rw [show slc8 c ++ [[AV.int .u8 0]] = slc8 (c ++ [0]) by simp [slc8]]
                repeat ((intro _u; clear _u); first | with_reducible first | refine cT ?_ | refine cF ?_ | refine cA ?_ | refine cB ?_ | refine aLn ?_ | refine cK ?_ | refine aS8 ?_ | refine wI ?_ | refine nD ?_ | refine aX rfl ?_)
                intro _u; clear _u
                refine cM false [1] (short_c h.n187 (c ++ [0]) (n - 1) (by omega) hcl) ?_
                repeat ((intro _u; clear _u); first | refine eK ?_ | refine eP ?_)
                repeat ((intro _u; clear _u); first | with_reducible first | refine cT ?_ | refine cF ?_ | refine cA ?_ | refine cB ?_ | refine aLn ?_ | refine cK ?_ | refine aS8 ?_ | refine wI ?_ | refine nD ?_ | refine aX rfl ?_)
                intro _u; clear _u
                refine nXa ((c ++ [0] ++ short (n - 1), i + n)) ?_ ?_
                · exact ⟨hs3, by dsimp only; omega⟩
                · dsimp only; omega
        · rw [List.drop_of_length_le (by omega), pk, List.append_nil] at hs1
          rw [← hs1]
          repeat ((intro _u; clear _u); first | with_reducible first | refine cT ?_ | refine cF ?_ | refine cA ?_ | refine cB ?_ | refine aLn ?_ | refine cK ?_ | refine aS8 ?_ | refine wI ?_ | refine nD ?_ | refine aX rfl ?_)
          intro _u; clear _u
          exact rT
    · have e1 : deltas p = ([], pchk p) := by rw [deltas, if_neg hc]
      have e2 : packed p = ([], pchk p) := by rw [packed, if_neg hc]
      have c1 := deltas_c h.n165 p hs
      rw [e1] at c1
      rw [e2]
      repeat ((intro _u; clear _u); first | with_reducible first | refine cT ?_ | refine cF ?_ | refine cA ?_ | refine cB ?_ | refine aLn ?_ | refine cK ?_ | refine aS8 ?_ | refine wI ?_ | refine nD ?_ | refine aX rfl ?_)
      intro _u; clear _u
      refine ICall.pure h.n165.o165.hb c1 rfl ?_
      repeat ((intro _u; clear _u); first | with_reducible first | refine cT ?_ | refine cF ?_ | refine cA ?_ | refine cB ?_ | refine aLn ?_ | refine cK ?_ | refine aS8 ?_ | refine wI ?_ | refine nD ?_ | refine aX rfl ?_)
      intro _u; clear _u
      refine acnd_t (by simpa using hc) ?_
      repeat ((intro _u; clear _u); first | with_reducible first | refine cT ?_ | refine cF ?_ | refine cA ?_ | refine cB ?_ | refine aLn ?_ | refine cK ?_ | refine aS8 ?_ | refine wI ?_ | refine nD ?_ | refine aX rfl ?_)
      intro _u; clear _u
      exact rT
end Go.UM

/- What the library's functions hand back. -/


namespace Go.UM
open Go.AM
set_option maxRecDepth 4000

/-- bytes.Equal. -/
theorem eq8_c {R : Env} (h : N47 R) (a b : List UInt8) : R.Pc 47 [.isl 1 (slc8 a), .isl 1 (slc8 b)] (.bool (a == b)) :=
  h.o47.enter 60 rfl fun X bb hfit hp => by
    repeat ((intro _u; clear _u); first | with_reducible first | refine cT ?_ | refine cF ?_ | refine cA ?_ | refine cB ?_ | refine aLn ?_ | refine cK ?_ | refine aS8 ?_ | refine wI ?_ | refine nD ?_ | refine aX rfl ?_)
    intro _u; clear _u
    exact rT
end Go.UM

/- The statements of chapter 39. -/



namespace Go.UM
open Go.AM
set_option maxRecDepth 4000

def P10 : Pl := ⟨10, 10, 1, [65], List.replicate 100 3⟩
theorem packed10 : packed P10 = ([10, 10, 1, 1, 65, 6, 0, 98], 0) := by
  have h1 : pchk P10 = 0 := by decide +kernel
  have h2 : dlt P10 = 3 :: 0 :: List.replicate 98 0 := by decide +kernel
  have h3 : zrun (List.replicate 98 0) = 98 := by decide +kernel
  rw [packed, if_pos h1, h2, pk, if_neg (by decide), pk, if_pos rfl, h3, show (List.replicate 98 (0 : Int)).drop 98 = [] by decide +kernel, pk, short_small (n := 98) (by decide), show (zig 3).toNat = 6 by decide +kernel, short_small (n := 6) (by decide)]
  rfl

theorem works39_c {R : Env} (h : N166 R) : R.Pc 166 [] (.bool true) :=
  h.o166.enter 100 rfl fun X bb hfit hp => by
    repeat ((intro _u; clear _u); first | with_reducible first | refine cT ?_ | refine cF ?_ | refine cA ?_ | refine cB ?_ | refine aLn ?_ | refine cK ?_ | refine aS8 ?_ | refine wI ?_ | refine nD ?_ | refine aX rfl ?_)
    intro _u; clear _u
    refine ILoop.one 100 ?_
    repeat ((intro _u; clear _u); first | with_reducible first | refine cT ?_ | refine cF ?_ | refine cA ?_ | refine cB ?_ | refine aLn ?_ | refine cK ?_ | refine aS8 ?_ | refine wI ?_ | refine nD ?_ | refine aX rfl ?_)
    intro _u; clear _u
    refine acnd_t (by decide) ?_
    repeat ((intro _u; clear _u); first | with_reducible first | refine cT ?_ | refine cF ?_ | refine cA ?_ | refine cB ?_ | refine aLn ?_ | refine cK ?_ | refine aS8 ?_ | refine wI ?_ | refine nD ?_ | refine aX rfl ?_)
    intro _u; clear _u
    refine lPa 100 (fun k : Nat => 1 ≤ k ∧ k ≤ 100) (fun k => ⟨[(1, .loc 0 1 0 0), (5, .int .i64 k)], [(2, .arr (R.ty 10) 1 (slcK .i64 (List.replicate k 3))), (0, .var (R.ty 20) [.int .i64 10, .int .i64 10, .int .i64 1, .str [65], .osl 2 k])], 3⟩) (fun k => 100 - k) (1) ?_ ?_
    · exact ⟨by omega, by omega⟩
    · intro k hk
      dsimp only
      repeat ((intro _u; clear _u); first | with_reducible first | refine cT ?_ | refine cF ?_ | refine cA ?_ | refine cB ?_ | refine aLn ?_ | refine cK ?_ | refine aS8 ?_ | refine wI ?_ | refine nD ?_ | refine aX rfl ?_)
      intro _u; clear _u
      refine cS (fun h1 => ?_) (fun h1 => ?_)
      · repeat ((intro _u; clear _u); first | with_reducible first | refine cT ?_ | refine cF ?_ | refine cA ?_ | refine cB ?_ | refine aLn ?_ | refine cK ?_ | refine aS8 ?_ | refine wI ?_ | refine nD ?_ | refine aX rfl ?_)
        intro _u; clear _u
        refine nX (k + 1) ?_ ?_ ⟨_, hp, rfl⟩ ?_ ?_
        · omega
        · omega
        · all_goals repeat' (first | exact True.intro | refine And.intro ?_ ?_ | (intro _u; clear _u) | with_reducible first | refine eM ?_ ?_ | refine eF ?_ ?_ ?_ | refine eN ?_ | refine eL ?_ ?_ ?_ | refine eA ?_ ?_ | refine IWk.mk ⟨_, hp, rfl⟩ ?_ ?_)
          all_goals first | with_reducible rfl | omega | exact Or.inl (by decide) | (simp; done) | rfl | skip
        · all_goals repeat' (first | exact True.intro | refine And.intro ?_ ?_ | (intro _u; clear _u) | with_reducible first | refine eM ?_ ?_ | refine eF ?_ ?_ ?_ | refine eN ?_ | refine eL ?_ ?_ ?_ | refine eA ?_ ?_ | refine IWk.mk ⟨_, hp, rfl⟩ ?_ ?_)
          all_goals first | with_reducible rfl | omega | exact Or.inl (by decide) | (simp; done) | rfl | skip
          simp [slcK, List.replicate_succ']
      · obtain rfl : k = 100 := by omega
        repeat ((intro _u; clear _u); first | with_reducible first | refine cT ?_ | refine cF ?_ | refine cA ?_ | refine cB ?_ | refine aLn ?_ | refine cK ?_ | refine aS8 ?_ | refine wI ?_ | refine nD ?_ | refine aX rfl ?_)
        intro _u; clear _u
        refine ICall.let [2] rfl hp rfl ?_
        repeat ((intro _u; clear _u); first | refine eZ ?_ | refine FrzC.drop ?_)
        have c1 := pack_c h.n164 P10 (by decide) (by rw [packed10]; decide)
        rw [packed10] at c1
        repeat ((intro _u; clear _u); first | with_reducible first | refine cT ?_ | refine cF ?_ | refine cA ?_ | refine cB ?_ | refine aLn ?_ | refine cK ?_ | refine aS8 ?_ | refine wI ?_ | refine nD ?_ | refine aX rfl ?_)
        intro _u; clear _u
        refine ICall.pure h.n164.o164.hb c1 rfl ?_
        repeat ((intro _u; clear _u); first | with_reducible first | refine cT ?_ | refine cF ?_ | refine cA ?_ | refine cB ?_ | refine aLn ?_ | refine cK ?_ | refine aS8 ?_ | refine wI ?_ | refine nD ?_ | refine aX rfl ?_)
        intro _u; clear _u
        refine acnd_t (by rfl) ?_
        repeat ((intro _u; clear _u); first | with_reducible first | refine cT ?_ | refine cF ?_ | refine cA ?_ | refine cB ?_ | refine aLn ?_ | refine cK ?_ | refine aS8 ?_ | refine wI ?_ | refine nD ?_ | refine aX rfl ?_)
        intro _u; clear _u
        refine cM true [] ((eq8_c h.n47 [10, 10, 1, 1, 65, 6, 0, 98] [10, 10, 1, 1, 65, 6, 0, 98]).mc h.n47.o47.hb) ?_
        repeat ((intro _u; clear _u); first | refine eK ?_ | refine eP ?_)
        repeat ((intro _u; clear _u); first | with_reducible first | refine cT ?_ | refine cF ?_ | refine cA ?_ | refine cB ?_ | refine aLn ?_ | refine cK ?_ | refine aS8 ?_ | refine wI ?_ | refine nD ?_ | refine aX rfl ?_)
        intro _u; clear _u
        exact rT

theorem zig_small {x : Int} (h : -2147483648 ≤ x ∧ x ≤ 2147483647) : zig x = if x < 0 then -2 * x - 1 else 2 * x := by
  unfold zig
  split
  · rw [show wr .i64 (-2 * x) = -2 * x from wr_in (k := .i64) (by simp only [inI]; omega), wr_in (k := .i64) (by simp only [inI]; omega)]
  · rw [wr_in (k := .i64) (by simp only [inI]; omega)]

theorem zag_law {R : Env} (h : N167 R) (k : Int) (hk : inI .i32 k) : R.Pc 167 [.int .i32 k] (.bool true) :=
  h.o167.enter 100 rfl fun X bb hfit hp => by
    simp only [inI] at hk
    have z1 := zig_small hk
    have z2 : zag (zig k) = k := by
      rw [z1]; unfold zag; split <;> split <;> omega
    have z3 : 0 ≤ zig k ∧ zig k ≤ 4294967296 := by rw [z1]; split <;> omega
    have c2 := zag_c h.n169 (zig k) (by simp only [inI]; omega)
    rw [z2] at c2
    repeat ((intro _u; clear _u); first | with_reducible first | refine cT ?_ | refine cF ?_ | refine cA ?_ | refine cB ?_ | refine aLn ?_ | refine cK ?_ | refine aS8 ?_ | refine wI ?_ | refine nD ?_ | refine aX rfl ?_)
    intro _u; clear _u
    refine ICall.pure h.n168.o168.hb (zig_c h.n168 k) rfl ?_
    repeat ((intro _u; clear _u); first | with_reducible first | refine cT ?_ | refine cF ?_ | refine cA ?_ | refine cB ?_ | refine aLn ?_ | refine cK ?_ | refine aS8 ?_ | refine wI ?_ | refine nD ?_ | refine aX rfl ?_)
    intro _u; clear _u
    refine ICall.pure h.n169.o169.hb c2 rfl ?_
    repeat ((intro _u; clear _u); first | with_reducible first | refine cT ?_ | refine cF ?_ | refine cA ?_ | refine cB ?_ | refine aLn ?_ | refine cK ?_ | refine aS8 ?_ | refine wI ?_ | refine nD ?_ | refine aX rfl ?_)
    intro _u; clear _u
    refine acnd_f (by simp) ?_
    repeat ((intro _u; clear _u); first | with_reducible first | refine cT ?_ | refine cF ?_ | refine cA ?_ | refine cB ?_ | refine aLn ?_ | refine cK ?_ | refine aS8 ?_ | refine wI ?_ | refine nD ?_ | refine aX rfl ?_)
    intro _u; clear _u
    refine ICall.pure h.n168.o168.hb (zig_c h.n168 k) rfl ?_
    repeat ((intro _u; clear _u); first | with_reducible first | refine cT ?_ | refine cF ?_ | refine cA ?_ | refine cB ?_ | refine aLn ?_ | refine cK ?_ | refine aS8 ?_ | refine wI ?_ | refine nD ?_ | refine aX rfl ?_)
    intro _u; clear _u
    refine acnd_f (by simp; omega) ?_
    repeat ((intro _u; clear _u); first | with_reducible first | refine cT ?_ | refine cF ?_ | refine cA ?_ | refine cB ?_ | refine aLn ?_ | refine cK ?_ | refine aS8 ?_ | refine wI ?_ | refine nD ?_ | refine aX rfl ?_)
    intro _u; clear _u
    refine cS (fun h1 => ?_) (fun h1 => ?_)
    · repeat ((intro _u; clear _u); first | with_reducible first | refine cT ?_ | refine cF ?_ | refine cA ?_ | refine cB ?_ | refine aLn ?_ | refine cK ?_ | refine aS8 ?_ | refine wI ?_ | refine nD ?_ | refine aX rfl ?_)
      intro _u; clear _u
      refine ICall.pure h.n166.o166.hb (works39_c h.n166) rfl ?_
      repeat ((intro _u; clear _u); first | with_reducible first | refine cT ?_ | refine cF ?_ | refine cA ?_ | refine cB ?_ | refine aLn ?_ | refine cK ?_ | refine aS8 ?_ | refine wI ?_ | refine nD ?_ | refine aX rfl ?_)
      intro _u; clear _u
      exact rT
    · have z4 : zag k = k / 2 ∨ zag k = -(k / 2) - 1 := by unfold zag; split <;> (try split) <;> omega
      have z5 := zig_small (x := zag k) (by omega)
      have z6 : zig (zag k) = k := by
        rw [z5]; unfold zag; repeat' split
        all_goals omega
      have c3 := zig_c h.n168 (zag k)
      rw [z6] at c3
      repeat ((intro _u; clear _u); first | with_reducible first | refine cT ?_ | refine cF ?_ | refine cA ?_ | refine cB ?_ | refine aLn ?_ | refine cK ?_ | refine aS8 ?_ | refine wI ?_ | refine nD ?_ | refine aX rfl ?_)
      intro _u; clear _u
      refine ICall.pure h.n169.o169.hb (zag_c h.n169 k (by simp only [inI]; omega)) rfl ?_
      repeat ((intro _u; clear _u); first | with_reducible first | refine cT ?_ | refine cF ?_ | refine cA ?_ | refine cB ?_ | refine aLn ?_ | refine cK ?_ | refine aS8 ?_ | refine wI ?_ | refine nD ?_ | refine aX rfl ?_)
      intro _u; clear _u
      refine ICall.pure h.n168.o168.hb c3 rfl ?_
      repeat ((intro _u; clear _u); first | with_reducible first | refine cT ?_ | refine cF ?_ | refine cA ?_ | refine cB ?_ | refine aLn ?_ | refine cK ?_ | refine aS8 ?_ | refine wI ?_ | refine nD ?_ | refine aX rfl ?_)
      intro _u; clear _u
      refine acnd_t (by simp) ?_
      repeat ((intro _u; clear _u); first | with_reducible first | refine cT ?_ | refine cF ?_ | refine cA ?_ | refine cB ?_ | refine aLn ?_ | refine cK ?_ | refine aS8 ?_ | refine wI ?_ | refine nD ?_ | refine aX rfl ?_)
      intro _u; clear _u
      refine ICall.pure h.n166.o166.hb (works39_c h.n166) rfl ?_
      repeat ((intro _u; clear _u); first | with_reducible first | refine cT ?_ | refine cF ?_ | refine cA ?_ | refine cB ?_ | refine aLn ?_ | refine cK ?_ | refine aS8 ?_ | refine wI ?_ | refine nD ?_ | refine aX rfl ?_)
      intro _u; clear _u
      exact rT
end Go.UM

/- What comes in, opened. -/


namespace Go.UM
open Go.AM

theorem open8 {T : TT} {n e : Nat} {es : List (List AV)} (hT : T.d e = .int .u8) (h : ∀ r ∈ es, cty T (n + 1) e r) : ∃ l : List UInt8, es = slc8 l := by
  obtain ⟨l, rfl, _⟩ := rows_map (f := fun c : UInt8 => [AV.int .u8 c.toNat]) (p := fun _ => True) (es := es) fun r hr => by
    have h1 := h r hr
    simp only [cty, hT] at h1
    obtain ⟨x, rfl, hx⟩ := h1
    have hx := wf_in hx
    simp only [inI] at hx
    refine ⟨u8 x, ?_, trivial⟩
    rw [← wr_u8, wr_in (k := .u8) hx]
  exact ⟨l, rfl⟩

theorem openK {T : TT} {n e : Nat} {k : IntKind} {es : List (List AV)} (hT : T.d e = .int k) (h : ∀ r ∈ es, cty T (n + 1) e r) : ∃ l : List Int, es = slcK k l ∧ ∀ x ∈ l, inI k x := by
  obtain ⟨l, rfl, hl⟩ := rows_map (f := fun c : Int => [AV.int k c]) (p := fun c => inI k c) (es := es) fun r hr => by
    have h1 := h r hr
    simp only [cty, hT] at h1
    obtain ⟨x, rfl, hx⟩ := h1
    exact ⟨x, rfl, wf_in hx⟩
  exact ⟨l, rfl, hl⟩
end Go.UM

/- The statements of chapter 39, part 2: flat planes. -/

namespace Go.UM
open Go.AM
set_option maxRecDepth 4000

theorem short_le : ∀ (k n : Nat), n < 128 ^ (k + 1) → (short n).length ≤ k + 1
  | 0, n, h => by rw [short_small (by simpa using h)]; simp
  | k + 1, n, h => by
    by_cases hn : n < 128
    · rw [short_small hn]; simp
    · rw [short_big (by omega), List.length_cons]
      have := short_le k (n / 128) (by rw [Nat.div_lt_iff_lt_mul (by decide)]; rwa [Nat.pow_succ] at h)
      omega

theorem zrun_rep (m : Nat) : zrun (List.replicate m 0) = m := by
  induction m with
  | zero => rfl
  | succ m ih => simp only [zrun] at ih ⊢; rw [List.replicate_succ, List.takeWhile_cons, if_pos (by simp), List.length_cons, ih]
theorem pk_rep {m : Nat} (hm : m < 16384) : (pk (List.replicate m 0)).length ≤ 3 := by
  cases m with
  | zero => simp [pk]
  | succ m =>
    rw [List.replicate_succ, pk, if_pos rfl, zrun_rep, List.drop_of_length_le (by simp), pk]
    have := short_le 1 m (by omega)
    simp; omega
theorem pk_flat {a : Int} {m : Nat} (ha : -32768 ≤ a ∧ a ≤ 32767) (hm : m < 16383) : (pk (a :: List.replicate m 0)).length ≤ 6 := by
  by_cases h : a = 0
  · subst h
    have := pk_rep (m := m + 1) (by omega)
    rw [List.replicate_succ] at this
    omega
  · rw [pk, if_neg h]
    have h1 := short_le 2 (zig a).toNat (by rw [zig_val ha]; split <;> omega)
    have h2 := pk_rep (m := m) (by omega)
    rw [List.length_append]; omega

/-- The slope: what stands at a place. -/
def slp (W a b c : Int) (i : Nat) : Int := (a + (i : Int) % W * b + (i : Int) / W * c) % 65536
def slope (W a b c : Int) (m : Nat) : List Int := (List.range m).map (slp W a b c)
theorem slope_at {W a b c : Int} {m : Nat} {i : Int} (h0 : 0 ≤ i) (h : i < m) : atp (slope W a b c m) i = (a + i % W * b + i / W * c) % 65536 := by
  refine atp_get ?_
  rw [slope, List.getElem?_map, List.getElem?_range (by omega), Option.map_some, slp, Int.toNat_of_nonneg h0]

theorem slope_zero {W a b c : Int} (hW : 1 ≤ W ∧ W ≤ 64) {m : Nat} {h : Int} {nm : List UInt8} {i : Nat} (hi : i < m) (h1 : 0 < (i : Int) % W) (h2 : W ≤ (i : Int)) : dl1 ⟨W, h, 1, nm, slope W a b c m⟩ i = 0 := by
  have e1 : ((i : Int) - 1) % W = (i : Int) % W - 1 := by
    have h3 := Int.emod_lt_of_pos (i : Int) (show 0 < W by omega)
    have h4 := Int.mul_ediv_add_emod (i : Int) W
    rw [show (i : Int) - 1 = ((i : Int) % W - 1) + W * ((i : Int) / W) by omega, Int.add_mul_emod_self_left, Int.emod_eq_of_lt (by omega) (by omega)]
  have e2 : ((i : Int) - 1) / W = (i : Int) / W := by
    have h4 := Int.mul_ediv_add_emod (i : Int) W
    have h5 := Int.mul_ediv_add_emod ((i : Int) - 1) W
    have h6 : W * (((i : Int) - 1) / W) = W * ((i : Int) / W) := by omega
    exact Int.eq_of_mul_eq_mul_left (by omega) h6
  have e3 : ((i : Int) - W) % W = (i : Int) % W := by rw [Int.sub_emod, Int.emod_self, Int.sub_zero, Int.emod_emod]
  have e4 : ((i : Int) - W) / W = (i : Int) / W - 1 := by
    have h4 := Int.mul_ediv_add_emod (i : Int) W
    have h5 := Int.mul_ediv_add_emod ((i : Int) - W) W
    have h6 : W * (((i : Int) - W) / W) = W * ((i : Int) / W - 1) := by rw [Int.mul_sub]; omega
    exact Int.eq_of_mul_eq_mul_left (by omega) h6
  have e5 : ((i : Int) - W - 1) % W = (i : Int) % W - 1 := by
    rw [show (i : Int) - W - 1 = ((i : Int) - 1) - W by omega, Int.sub_emod, Int.emod_self, Int.sub_zero, Int.emod_emod, e1]
  have e6 : ((i : Int) - W - 1) / W = (i : Int) / W - 1 := by
    have h4 := Int.mul_ediv_add_emod (i : Int) W
    have h5 := Int.mul_ediv_add_emod ((i : Int) - W - 1) W
    have h6 : W * (((i : Int) - W - 1) / W) = W * ((i : Int) / W - 1) := by rw [Int.mul_sub]; omega
    exact Int.eq_of_mul_eq_mul_left (by omega) h6
  have h7 : W + 1 ≤ (i : Int) := by
    rcases Int.lt_or_le W (i : Int) with h | h
    · omega
    · rw [show (i : Int) = W by omega, Int.emod_self] at h1; omega
  unfold dl1 exv
  dsimp only
  rw [Int.mul_one, if_pos ⟨by omega, h2⟩, slope_at (by omega) (by omega), slope_at (by omega) (by omega), slope_at (by omega) (by omega), slope_at (by omega) (by omega), e1, e2, e3, e4, e5, e6]
  have m1 : ((i : Int) % W - 1) * b = (i : Int) % W * b - b := by rw [Int.sub_mul, Int.one_mul]
  have m2 : ((i : Int) / W - 1) * c = (i : Int) / W * c - c := by rw [Int.sub_mul, Int.one_mul]
  rw [m1, m2]
  generalize (i : Int) % W * b = X
  generalize (i : Int) / W * c = Y
  omega
end Go.UM
