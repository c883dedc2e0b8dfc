/- Of the reckoning machine, and what is proved with it: texts joined by program. -/
import Derived.Test.YtefnfebodlkldaaK2
set_option linter.all false

/- The resolved code of package lib, function by function; numbers are those of the register, the same for all programs. -/

namespace Go.UM
open Go.AM
/-- bytes.Equal -/
def c47 : IFn := { np := 2, rs := [.t 4], body :=
 (.seq
  (.ops [⟨some 4, none, .mv (.k (.bool false))⟩])
  (.seq
   (.ops [⟨some 5, none, .mv (.t 0)⟩,
     ⟨some 6, none, .b2s (.t 5)⟩,
     ⟨some 7, none, .mv (.t 1)⟩,
     ⟨some 8, none, .b2s (.t 7)⟩,
     ⟨some 9, none, .bst .eql (.t 6) (.t 8)⟩,
     ⟨some 4, none, .mv (.t 9)⟩])
   (.keep [4]
    .ret))) }
structure N47 (R : Env) : Prop where
  o47 : R.Fn 47 c47
/-- slices.Clone[[]byte,byte][[]uint8,uint8] -/
def c62 : IFn := { np := 1, rs := [.t 2], body :=
 (.seq
  (.ops [⟨some 2, none, .mv (.k (.nils))⟩])
  (.seq
   (.seq
    (.ops [⟨some 3, none, .mv (.t 0)⟩,
      ⟨some 4, none, .isnS false (.t 3)⟩])
    (.cond (.t 4)
     (.seq
      (.ops [⟨some 2, none, .mv (.k (.nils))⟩])
      .ret)
     .skip))
   (.keep [0]
    (.seq
     (.ops [⟨some 5, none, .bslice 4 1 0 [.int .u8 0] []⟩,
       ⟨some 6, none, .mv (.t 0)⟩,
       ⟨some 7, none, .app 4 1 (.t 5) (.t 6)⟩,
       ⟨some 2, none, .mv (.t 7)⟩])
     .ret)))) }
structure N62 (R : Env) : Prop where
  o62 : R.Fn 62 c62
/-- slices.IndexFunc[[]umbra.api.Point,umbra.api.Point][[]api.Point,umbra.api.Point] -/
def c217 : IFn := { np := 2, rs := [.t 4], body :=
 (.seq
  (.ops [⟨some 4, none, .mv (.k (.int .i64 0))⟩])
  (.seq
   (.seq
    (.ops [⟨some 6, none, .mv (.t 0)⟩,
      ⟨some 7, none, .lenS (.t 6)⟩,
      ⟨some 8, none, .mv (.k (.int .i64 0))⟩])
    (.keep [0, 1, 7, 8]
     (.block 0
      (.loop
       (.seq
        (.ops [⟨some 9, none, .bin .lss (.t 8) (.t 7)⟩])
        (.seq
         (.cond (.t 9)
          .skip
          (.exit 0))
         (.keep [0, 1, 7, 8]
          (.seq
           (.block 1
            (.seq
             (.ops [⟨some 10, none, .mv (.t 8)⟩,
               ⟨some 5, none, .mv (.t 10)⟩])
             (.seq
              (.ops [⟨some 11, none, .mv (.t 1)⟩,
                ⟨some 12, none, .mv (.t 0)⟩,
                ⟨some 13, none, .mv (.t 5)⟩,
                ⟨some 14, none, .idxS 3 (.t 12) (.t 13)⟩,
                ⟨some 15, none, .load true 3 (.t 14)⟩,
                ⟨some 16, none, .callv (.t 11) [.t 15]⟩])
              (.keep [0, 1, 5, 7, 8, 16]
               (.cond (.t 16)
                (.seq
                 (.ops [⟨some 17, none, .mv (.t 5)⟩,
                   ⟨some 4, none, .mv (.t 17)⟩])
                 .ret)
                .skip)))))
           (.keep [0, 1, 7, 8]
            (.ops [⟨some 18, none, .bin .add (.t 8) (.k (.int .i64 1))⟩,
              ⟨some 8, none, .mv (.t 18)⟩]))))))))))
   (.keep []
    (.seq
     (.ops [⟨some 4, none, .mv (.k (.int .i64 (-1)))⟩])
     .ret)))) }
structure N217 (R : Env) : Prop where
  o217 : R.Fn 217 c217
/-- slices.ContainsFunc[[]umbra.api.Point,umbra.api.Point][[]api.Point,umbra.api.Point] -/
def c209 : IFn := { np := 2, rs := [.t 4], body :=
 (.seq
  (.ops [⟨some 4, none, .mv (.k (.bool false))⟩])
  (.seq
   (.ops [⟨some 5, none, .mv (.t 0)⟩,
     ⟨some 6, none, .mv (.t 1)⟩,
     ⟨some 7, none, .call 217 [.t 5, .t 6]⟩,
     ⟨some 8, none, .bin .geq (.t 7) (.k (.int .i64 0))⟩,
     ⟨some 4, none, .mv (.t 8)⟩])
   (.keep [4]
    .ret))) }
structure N209 (R : Env) : Prop where
  o209 : R.Fn 209 c209
  n217 : N217 R
/-- slices.IndexFunc[[][2]int,[2]int][[][2]int,[2]int] -/
def c218 : IFn := { np := 2, rs := [.t 4], body :=
 (.seq
  (.ops [⟨some 4, none, .mv (.k (.int .i64 0))⟩])
  (.seq
   (.seq
    (.ops [⟨some 6, none, .mv (.t 0)⟩,
      ⟨some 7, none, .lenS (.t 6)⟩,
      ⟨some 8, none, .mv (.k (.int .i64 0))⟩])
    (.keep [0, 1, 7, 8]
     (.block 0
      (.loop
       (.seq
        (.ops [⟨some 9, none, .bin .lss (.t 8) (.t 7)⟩])
        (.seq
         (.cond (.t 9)
          .skip
          (.exit 0))
         (.keep [0, 1, 7, 8]
          (.seq
           (.block 1
            (.seq
             (.ops [⟨some 10, none, .mv (.t 8)⟩,
               ⟨some 5, none, .mv (.t 10)⟩])
             (.seq
              (.ops [⟨some 11, none, .mv (.t 1)⟩,
                ⟨some 12, none, .mv (.t 0)⟩,
                ⟨some 13, none, .mv (.t 5)⟩,
                ⟨some 14, none, .idxS 2 (.t 12) (.t 13)⟩,
                ⟨some 15, none, .load true 2 (.t 14)⟩,
                ⟨some 16, none, .callv (.t 11) [.t 15]⟩])
              (.keep [0, 1, 5, 7, 8, 16]
               (.cond (.t 16)
                (.seq
                 (.ops [⟨some 17, none, .mv (.t 5)⟩,
                   ⟨some 4, none, .mv (.t 17)⟩])
                 .ret)
                .skip)))))
           (.keep [0, 1, 7, 8]
            (.ops [⟨some 18, none, .bin .add (.t 8) (.k (.int .i64 1))⟩,
              ⟨some 8, none, .mv (.t 18)⟩]))))))))))
   (.keep []
    (.seq
     (.ops [⟨some 4, none, .mv (.k (.int .i64 (-1)))⟩])
     .ret)))) }
structure N218 (R : Env) : Prop where
  o218 : R.Fn 218 c218
/-- slices.ContainsFunc[[][2]int,[2]int][[][2]int,[2]int] -/
def c210 : IFn := { np := 2, rs := [.t 4], body :=
 (.seq
  (.ops [⟨some 4, none, .mv (.k (.bool false))⟩])
  (.seq
   (.ops [⟨some 5, none, .mv (.t 0)⟩,
     ⟨some 6, none, .mv (.t 1)⟩,
     ⟨some 7, none, .call 218 [.t 5, .t 6]⟩,
     ⟨some 8, none, .bin .geq (.t 7) (.k (.int .i64 0))⟩,
     ⟨some 4, none, .mv (.t 8)⟩])
   (.keep [4]
    .ret))) }
structure N210 (R : Env) : Prop where
  o210 : R.Fn 210 c210
  n218 : N218 R
/-- slices.IndexFunc[[][3]int,[3]int][[][3]int,[3]int] -/
def c219 : IFn := { np := 2, rs := [.t 4], body :=
 (.seq
  (.ops [⟨some 4, none, .mv (.k (.int .i64 0))⟩])
  (.seq
   (.seq
    (.ops [⟨some 6, none, .mv (.t 0)⟩,
      ⟨some 7, none, .lenS (.t 6)⟩,
      ⟨some 8, none, .mv (.k (.int .i64 0))⟩])
    (.keep [0, 1, 7, 8]
     (.block 0
      (.loop
       (.seq
        (.ops [⟨some 9, none, .bin .lss (.t 8) (.t 7)⟩])
        (.seq
         (.cond (.t 9)
          .skip
          (.exit 0))
         (.keep [0, 1, 7, 8]
          (.seq
           (.block 1
            (.seq
             (.ops [⟨some 10, none, .mv (.t 8)⟩,
               ⟨some 5, none, .mv (.t 10)⟩])
             (.seq
              (.ops [⟨some 11, none, .mv (.t 1)⟩,
                ⟨some 12, none, .mv (.t 0)⟩,
                ⟨some 13, none, .mv (.t 5)⟩,
                ⟨some 14, none, .idxS 3 (.t 12) (.t 13)⟩,
                ⟨some 15, none, .load true 3 (.t 14)⟩,
                ⟨some 16, none, .callv (.t 11) [.t 15]⟩])
              (.keep [0, 1, 5, 7, 8, 16]
               (.cond (.t 16)
                (.seq
                 (.ops [⟨some 17, none, .mv (.t 5)⟩,
                   ⟨some 4, none, .mv (.t 17)⟩])
                 .ret)
                .skip)))))
           (.keep [0, 1, 7, 8]
            (.ops [⟨some 18, none, .bin .add (.t 8) (.k (.int .i64 1))⟩,
              ⟨some 8, none, .mv (.t 18)⟩]))))))))))
   (.keep []
    (.seq
     (.ops [⟨some 4, none, .mv (.k (.int .i64 (-1)))⟩])
     .ret)))) }
structure N219 (R : Env) : Prop where
  o219 : R.Fn 219 c219
/-- slices.ContainsFunc[[][3]int,[3]int][[][3]int,[3]int] -/
def c211 : IFn := { np := 2, rs := [.t 4], body :=
 (.seq
  (.ops [⟨some 4, none, .mv (.k (.bool false))⟩])
  (.seq
   (.ops [⟨some 5, none, .mv (.t 0)⟩,
     ⟨some 6, none, .mv (.t 1)⟩,
     ⟨some 7, none, .call 219 [.t 5, .t 6]⟩,
     ⟨some 8, none, .bin .geq (.t 7) (.k (.int .i64 0))⟩,
     ⟨some 4, none, .mv (.t 8)⟩])
   (.keep [4]
    .ret))) }
structure N211 (R : Env) : Prop where
  o211 : R.Fn 211 c211
  n219 : N219 R
end Go.UM

/- The resolved code of package codec, function by function; numbers are those of the register, the same for all programs. -/

namespace Go.UM
open Go.AM
/-- umbra.codec.Put -/
def c54 : IFn := { np := 3, rs := [.t 6, .t 7], body :=
 (.seq
  (.ops [⟨some 6, none, .mv (.k (.nils))⟩,
    ⟨some 7, none, .mv (.k (.int .i64 0))⟩])
  (.seq
   (.seq
    (.ops [⟨some 12, none, .mv (.t 1)⟩,
      ⟨some 13, none, .bin .lss (.t 12) (.k (.int .i64 1))⟩,
      ⟨some 14, none, .mv (.t 13)⟩,
      ⟨some 15, some (14, false), .mv (.t 1)⟩,
      ⟨some 16, some (14, false), .bin .gtr (.t 15) (.k (.int .i64 8))⟩,
      ⟨some 17, none, .pick (.t 14) (.k (.bool true)) (.t 16)⟩])
    (.keep [0, 1, 2, 17]
     (.cond (.t 17)
      (.seq
       (.ops [⟨some 6, none, .mv (.k (.nils))⟩,
         ⟨some 7, none, .mv (.k (.int .i64 2))⟩])
       .ret)
      .skip)))
   (.keep [0, 1, 2]
    (.seq
     (.ops [⟨some 18, none, .mv (.t 0)⟩,
       ⟨some 19, none, .call 62 [.t 18]⟩,
       ⟨some 8, none, .mv (.t 19)⟩])
     (.seq
      (.seq
       (.ops [⟨some 20, none, .mv (.t 2)⟩,
         ⟨some 21, none, .lenS (.t 20)⟩,
         ⟨some 22, none, .mv (.k (.int .i64 0))⟩])
       (.keep [1, 8, 20, 21, 22]
        (.block 0
         (.loop
          (.seq
           (.ops [⟨some 23, none, .bin .lss (.t 22) (.t 21)⟩])
           (.seq
            (.cond (.t 23)
             .skip
             (.exit 0))
            (.keep [1, 8, 20, 21, 22]
             (.seq
              (.block 1
               (.seq
                (.ops [⟨some 24, none, .idxS 1 (.t 20) (.t 22)⟩,
                  ⟨some 25, none, .load false 1 (.t 24)⟩,
                  ⟨some 10, none, .mv (.t 25)⟩])
                (.seq
                 (.seq
                  (.ops [⟨some 26, none, .mv (.t 1)⟩,
                    ⟨some 27, none, .bin .lss (.t 26) (.k (.int .i64 8))⟩,
                    ⟨some 28, none, .mv (.t 27)⟩,
                    ⟨some 29, some (28, true), .mv (.t 10)⟩,
                    ⟨some 30, some (28, true), .mv (.t 1)⟩,
                    ⟨some 31, some (28, true), .bin .mul (.k (.int .i64 8)) (.t 30)⟩,
                    ⟨some 32, some (28, true), .bin .shr (.t 29) (.t 31)⟩,
                    ⟨some 33, some (28, true), .bin .gtr (.t 32) (.k (.int .u64 0))⟩,
                    ⟨some 34, none, .pick (.t 28) (.t 33) (.k (.bool false))⟩])
                  (.keep [1, 8, 10, 20, 21, 22, 34]
                   (.cond (.t 34)
                    (.seq
                     (.ops [⟨some 6, none, .mv (.k (.nils))⟩,
                       ⟨some 7, none, .mv (.k (.int .i64 3))⟩])
                     .ret)
                    .skip)))
                 (.keep [1, 8, 10, 20, 21, 22]
                  (.seq
                   (.ops [⟨some 35, none, .mv (.t 1)⟩,
                     ⟨some 36, none, .mv (.k (.int .i64 0))⟩])
                   (.keep [1, 8, 10, 20, 21, 22, 35, 36]
                    (.block 2
                     (.loop
                      (.seq
                       (.ops [⟨some 37, none, .bin .lss (.t 36) (.t 35)⟩])
                       (.seq
                        (.cond (.t 37)
                         .skip
                         (.exit 2))
                        (.keep [1, 8, 10, 20, 21, 22, 35, 36]
                         (.seq
                          (.block 3
                           (.seq
                            (.ops [⟨some 38, none, .mv (.t 36)⟩,
                              ⟨some 11, none, .mv (.t 38)⟩])
                            (.ops [⟨some 39, none, .mv (.t 8)⟩,
                              ⟨some 40, none, .mv (.t 10)⟩,
                              ⟨some 41, none, .mv (.t 11)⟩,
                              ⟨some 42, none, .bin .mul (.k (.int .i64 8)) (.t 41)⟩,
                              ⟨some 43, none, .bin .shr (.t 40) (.t 42)⟩,
                              ⟨some 44, none, .conv .u8 (.t 43)⟩,
                              ⟨some 45, none, .bslice 4 1 1 [.int .u8 0] [(0, .t 44)]⟩,
                              ⟨some 46, none, .app 4 1 (.t 39) (.t 45)⟩,
                              ⟨some 8, none, .mv (.t 46)⟩])))
                          (.keep [1, 8, 10, 20, 21, 22, 35, 36]
                           (.ops [⟨some 47, none, .bin .add (.t 36) (.k (.int .i64 1))⟩,
                             ⟨some 36, none, .mv (.t 47)⟩]))))))))))))))
              (.keep [1, 8, 20, 21, 22]
               (.ops [⟨some 48, none, .bin .add (.t 22) (.k (.int .i64 1))⟩,
                 ⟨some 22, none, .mv (.t 48)⟩]))))))))))
      (.keep [8]
       (.seq
        (.ops [⟨some 49, none, .mv (.t 8)⟩,
          ⟨some 6, none, .mv (.t 49)⟩,
          ⟨some 7, none, .mv (.k (.int .i64 0))⟩])
        .ret))))))) }
structure N54 (R : Env) : Prop where
  o54 : R.Fn 54 c54
  n62 : N62 R
/-- umbra.codec.New -/
def c56 : IFn := { np := 1, rs := [.t 2], body :=
 (.seq
  (.ops [⟨some 2, none, .mv (.k (.nilp))⟩])
  (.seq
   (.ops [⟨some 3, none, .mv (.t 0)⟩,
     ⟨some 4, none, .call 62 [.t 3]⟩,
     ⟨some 5, none, .build [.nils, .int .i64 0, .bool false] [(0, 1, .t 4), (2, 1, .k (.bool true))]⟩,
     ⟨some 6, none, .box 9 (.t 5)⟩,
     ⟨some 2, none, .mv (.t 6)⟩])
   (.keep [2]
    .ret))) }
structure N56 (R : Env) : Prop where
  o56 : R.Fn 56 c56
  n62 : N62 R
/-- (*umbra.codec.Reader).none -/
def c64 : IFn := { np := 1, rs := [.t 2], body :=
 (.seq
  (.ops [⟨some 2, none, .mv (.k (.bool false))⟩])
  (.seq
   (.ops [⟨some 3, none, .mv (.t 0)⟩,
     ⟨some 4, none, .isn false (.t 3)⟩,
     ⟨some 5, none, .mv (.t 4)⟩,
     ⟨some 6, some (5, false), .mv (.t 0)⟩,
     ⟨some 7, some (5, false), .nilck (.t 6)⟩,
     ⟨some 8, some (5, false), .fldA 2 (.t 7)⟩,
     ⟨some 9, some (5, false), .load false 1 (.t 8)⟩,
     ⟨some 10, some (5, false), .un .not (.t 9)⟩,
     ⟨some 11, none, .pick (.t 5) (.k (.bool true)) (.t 10)⟩,
     ⟨some 2, none, .mv (.t 11)⟩])
   (.keep [2]
    .ret))) }
structure N64 (R : Env) : Prop where
  o64 : R.Fn 64 c64
/-- (*umbra.codec.Reader).Take -/
def c59 : IFn := { np := 2, rs := [.t 4], body :=
 (.seq
  (.ops [⟨some 4, none, .mv (.k (.nils))⟩])
  (.seq
   (.block 0
    (.seq
     (.ops [⟨some 7, none, .mv (.t 0)⟩,
       ⟨some 8, none, .call 64 [.t 7]⟩,
       ⟨some 9, none, .mv (.t 8)⟩,
       ⟨some 10, some (9, false), .mv (.t 0)⟩,
       ⟨some 11, some (9, false), .nilck (.t 10)⟩,
       ⟨some 12, some (9, false), .fldA 1 (.t 11)⟩,
       ⟨some 13, some (9, false), .load false 1 (.t 12)⟩,
       ⟨some 14, some (9, false), .bin .neq (.t 13) (.k (.int .i64 0))⟩,
       ⟨some 15, none, .pick (.t 9) (.k (.bool true)) (.t 14)⟩,
       ⟨some 6, none, .mv (.t 15)⟩])
     (.keep [0, 1, 6]
      (.cond (.t 6)
       (.seq
        (.ops [⟨some 4, none, .mv (.k (.nils))⟩])
        .ret)
       (.seq
        (.ops [⟨some 17, none, .mv (.t 1)⟩,
          ⟨some 18, none, .bin .lss (.t 17) (.k (.int .i64 0))⟩,
          ⟨some 16, none, .mv (.t 18)⟩])
        (.cond (.t 16)
         (.seq
          (.ops [⟨some 19, none, .mv (.t 0)⟩,
            ⟨some 20, none, .nilck (.t 19)⟩,
            ⟨some 21, none, .fldA 1 (.t 20)⟩,
            ⟨none, none, .store 1 (.t 21) (.k (.int .i64 2))⟩])
          (.seq
           (.ops [⟨some 4, none, .mv (.k (.nils))⟩])
           .ret))
         (.seq
          (.ops [⟨some 23, none, .mv (.t 1)⟩,
            ⟨some 24, none, .mv (.t 0)⟩,
            ⟨some 25, none, .nilck (.t 24)⟩,
            ⟨some 26, none, .fldA 0 (.t 25)⟩,
            ⟨some 27, none, .load false 1 (.t 26)⟩,
            ⟨some 28, none, .lenS (.t 27)⟩,
            ⟨some 29, none, .bin .gtr (.t 23) (.t 28)⟩,
            ⟨some 22, none, .mv (.t 29)⟩])
          (.keep [0, 1, 22]
           (.cond (.t 22)
            (.seq
             (.ops [⟨some 30, none, .mv (.t 0)⟩,
               ⟨some 31, none, .nilck (.t 30)⟩,
               ⟨some 32, none, .fldA 1 (.t 31)⟩,
               ⟨none, none, .store 1 (.t 32) (.k (.int .i64 4))⟩])
             (.seq
              (.ops [⟨some 4, none, .mv (.k (.nils))⟩])
              .ret))
            .skip)))))))))
   (.keep [0, 1]
    (.seq
     (.ops [⟨some 33, none, .mv (.t 0)⟩,
       ⟨some 34, none, .nilck (.t 33)⟩,
       ⟨some 35, none, .fldA 0 (.t 34)⟩,
       ⟨some 36, none, .load false 1 (.t 35)⟩,
       ⟨some 37, none, .mv (.t 1)⟩,
       ⟨some 38, none, .mv (.t 1)⟩,
       ⟨some 39, none, .slcS 4 1 (.t 36) none (some (.t 37)) (some (.t 38))⟩,
       ⟨some 5, none, .mv (.t 39)⟩])
     (.keep [0, 1, 5]
      (.seq
       (.ops [⟨some 40, none, .mv (.t 0)⟩,
         ⟨some 41, none, .mv (.t 0)⟩,
         ⟨some 42, none, .nilck (.t 41)⟩,
         ⟨some 43, none, .fldA 0 (.t 42)⟩,
         ⟨some 44, none, .load false 1 (.t 43)⟩,
         ⟨some 45, none, .mv (.t 1)⟩,
         ⟨some 46, none, .slcS 4 1 (.t 44) (some (.t 45)) none none⟩,
         ⟨some 47, none, .nilck (.t 40)⟩,
         ⟨some 48, none, .fldA 0 (.t 47)⟩,
         ⟨none, none, .store 1 (.t 48) (.t 46)⟩])
       (.keep [5]
        (.seq
         (.ops [⟨some 49, none, .mv (.t 5)⟩,
           ⟨some 4, none, .mv (.t 49)⟩])
         .ret)))))))) }
structure N59 (R : Env) : Prop where
  o59 : R.Fn 59 c59
  n64 : N64 R
/-- (*umbra.codec.Reader).Num -/
def c57 : IFn := { np := 2, rs := [.t 4], body :=
 (.seq
  (.ops [⟨some 4, none, .mv (.k (.int .u64 0))⟩])
  (.seq
   (.seq
    (.ops [⟨some 8, none, .mv (.t 1)⟩,
      ⟨some 9, none, .bin .lss (.t 8) (.k (.int .i64 1))⟩,
      ⟨some 10, none, .mv (.t 9)⟩,
      ⟨some 11, some (10, false), .mv (.t 1)⟩,
      ⟨some 12, some (10, false), .bin .gtr (.t 11) (.k (.int .i64 8))⟩,
      ⟨some 13, none, .pick (.t 10) (.k (.bool true)) (.t 12)⟩])
    (.keep [0, 1, 13]
     (.cond (.t 13)
      (.ops [⟨some 1, none, .mv (.k (.int .i64 (-1)))⟩])
      .skip)))
   (.keep [0, 1]
    (.seq
     (.ops [⟨some 5, none, .mv (.k (.int .u64 0))⟩])
     (.seq
      (.seq
       (.ops [⟨some 14, none, .mv (.t 0)⟩,
         ⟨some 15, none, .mv (.t 1)⟩,
         ⟨some 16, none, .call 59 [.t 14, .t 15]⟩,
         ⟨some 17, none, .lenS (.t 16)⟩,
         ⟨some 18, none, .mv (.k (.int .i64 0))⟩])
       (.keep [5, 16, 17, 18]
        (.block 0
         (.loop
          (.seq
           (.ops [⟨some 19, none, .bin .lss (.t 18) (.t 17)⟩])
           (.seq
            (.cond (.t 19)
             .skip
             (.exit 0))
            (.keep [5, 16, 17, 18]
             (.seq
              (.block 1
               (.seq
                (.ops [⟨some 20, none, .mv (.t 18)⟩,
                  ⟨some 21, none, .idxS 1 (.t 16) (.t 18)⟩,
                  ⟨some 22, none, .load false 1 (.t 21)⟩,
                  ⟨some 6, none, .mv (.t 20)⟩,
                  ⟨some 7, none, .mv (.t 22)⟩])
                (.keep [5, 6, 7, 16, 17, 18]
                 (.ops [⟨some 23, none, .mv (.t 5)⟩,
                   ⟨some 24, none, .mv (.t 7)⟩,
                   ⟨some 25, none, .conv .u64 (.t 24)⟩,
                   ⟨some 26, none, .mv (.t 6)⟩,
                   ⟨some 27, none, .bin .mul (.k (.int .i64 8)) (.t 26)⟩,
                   ⟨some 28, none, .bin .shl (.t 25) (.t 27)⟩,
                   ⟨some 29, none, .bin .or (.t 23) (.t 28)⟩,
                   ⟨some 5, none, .mv (.t 29)⟩]))))
              (.keep [5, 16, 17, 18]
               (.ops [⟨some 30, none, .bin .add (.t 18) (.k (.int .i64 1))⟩,
                 ⟨some 18, none, .mv (.t 30)⟩]))))))))))
      (.keep [5]
       (.seq
        (.ops [⟨some 31, none, .mv (.t 5)⟩,
          ⟨some 4, none, .mv (.t 31)⟩])
        .ret))))))) }
structure N57 (R : Env) : Prop where
  o57 : R.Fn 57 c57
  n59 : N59 R
/-- (*umbra.codec.Reader).Err -/
def c65 : IFn := { np := 1, rs := [.t 2], body :=
 (.seq
  (.ops [⟨some 2, none, .mv (.k (.int .i64 0))⟩])
  (.seq
   (.seq
    (.ops [⟨some 3, none, .mv (.t 0)⟩,
      ⟨some 4, none, .call 64 [.t 3]⟩])
    (.cond (.t 4)
     (.seq
      (.ops [⟨some 2, none, .mv (.k (.int .i64 1))⟩])
      .ret)
     .skip))
   (.keep [0]
    (.seq
     (.ops [⟨some 5, none, .mv (.t 0)⟩,
       ⟨some 6, none, .nilck (.t 5)⟩,
       ⟨some 7, none, .fldA 1 (.t 6)⟩,
       ⟨some 8, none, .load false 1 (.t 7)⟩,
       ⟨some 2, none, .mv (.t 8)⟩])
     (.keep [2]
      .ret))))) }
structure N65 (R : Env) : Prop where
  o65 : R.Fn 65 c65
  n64 : N64 R
/-- (*umbra.codec.Reader).End -/
def c60 : IFn := { np := 1, rs := [.t 2], body :=
 (.seq
  (.ops [⟨some 2, none, .mv (.k (.int .i64 0))⟩])
  (.seq
   (.seq
    (.ops [⟨some 4, none, .mv (.t 0)⟩,
      ⟨some 5, none, .call 65 [.t 4]⟩,
      ⟨some 3, none, .mv (.t 5)⟩])
    (.seq
     (.ops [⟨some 6, none, .mv (.t 3)⟩,
       ⟨some 7, none, .bin .neq (.t 6) (.k (.int .i64 0))⟩])
     (.cond (.t 7)
      (.seq
       (.ops [⟨some 8, none, .mv (.t 3)⟩,
         ⟨some 2, none, .mv (.t 8)⟩])
       .ret)
      .skip)))
   (.keep [0]
    (.seq
     (.seq
      (.ops [⟨some 9, none, .mv (.t 0)⟩,
        ⟨some 10, none, .nilck (.t 9)⟩,
        ⟨some 11, none, .fldA 0 (.t 10)⟩,
        ⟨some 12, none, .load false 1 (.t 11)⟩,
        ⟨some 13, none, .lenS (.t 12)⟩,
        ⟨some 14, none, .bin .gtr (.t 13) (.k (.int .i64 0))⟩])
      (.keep [14]
       (.cond (.t 14)
        (.seq
         (.ops [⟨some 2, none, .mv (.k (.int .i64 5))⟩])
         .ret)
        .skip)))
     (.keep []
      (.seq
       (.ops [⟨some 2, none, .mv (.k (.int .i64 0))⟩])
       .ret)))))) }
structure N60 (R : Env) : Prop where
  o60 : R.Fn 60 c60
  n65 : N65 R
/-- umbra.codec.Signed -/
def c71 : IFn := { np := 3, rs := [.t 6, .t 7], body :=
 (.seq
  (.ops [⟨some 6, none, .mv (.k (.nils))⟩,
    ⟨some 7, none, .mv (.k (.int .i64 0))⟩])
  (.seq
   (.seq
    (.ops [⟨some 12, none, .mv (.t 1)⟩,
      ⟨some 13, none, .bin .lss (.t 12) (.k (.int .i64 1))⟩,
      ⟨some 14, none, .mv (.t 13)⟩,
      ⟨some 15, some (14, false), .mv (.t 1)⟩,
      ⟨some 16, some (14, false), .bin .gtr (.t 15) (.k (.int .i64 8))⟩,
      ⟨some 17, none, .pick (.t 14) (.k (.bool true)) (.t 16)⟩])
    (.keep [0, 1, 2, 17]
     (.cond (.t 17)
      (.seq
       (.ops [⟨some 6, none, .mv (.k (.nils))⟩,
         ⟨some 7, none, .mv (.k (.int .i64 2))⟩])
       .ret)
      .skip)))
   (.keep [0, 1, 2]
    (.seq
     (.ops [⟨some 8, none, .mv (.k (.nils))⟩])
     (.seq
      (.seq
       (.ops [⟨some 18, none, .mv (.t 2)⟩,
         ⟨some 19, none, .lenS (.t 18)⟩,
         ⟨some 20, none, .mv (.k (.int .i64 0))⟩])
       (.keep [0, 1, 8, 18, 19, 20]
        (.block 0
         (.loop
          (.seq
           (.ops [⟨some 21, none, .bin .lss (.t 20) (.t 19)⟩])
           (.seq
            (.cond (.t 21)
             .skip
             (.exit 0))
            (.keep [0, 1, 8, 18, 19, 20]
             (.seq
              (.block 1
               (.seq
                (.ops [⟨some 22, none, .idxS 1 (.t 18) (.t 20)⟩,
                  ⟨some 23, none, .load false 1 (.t 22)⟩,
                  ⟨some 10, none, .mv (.t 23)⟩])
                (.seq
                 (.seq
                  (.ops [⟨some 24, none, .mv (.t 10)⟩,
                    ⟨some 25, none, .mv (.t 1)⟩,
                    ⟨some 26, none, .bin .mul (.k (.int .i64 8)) (.t 25)⟩,
                    ⟨some 27, none, .bin .sub (.k (.int .i64 64)) (.t 26)⟩,
                    ⟨some 28, none, .bin .shl (.t 24) (.t 27)⟩,
                    ⟨some 29, none, .mv (.t 1)⟩,
                    ⟨some 30, none, .bin .mul (.k (.int .i64 8)) (.t 29)⟩,
                    ⟨some 31, none, .bin .sub (.k (.int .i64 64)) (.t 30)⟩,
                    ⟨some 32, none, .bin .shr (.t 28) (.t 31)⟩,
                    ⟨some 11, none, .mv (.t 32)⟩])
                  (.keep [0, 1, 8, 10, 11, 18, 19, 20]
                   (.seq
                    (.ops [⟨some 33, none, .mv (.t 11)⟩,
                      ⟨some 34, none, .mv (.t 10)⟩,
                      ⟨some 35, none, .bin .neq (.t 33) (.t 34)⟩])
                    (.cond (.t 35)
                     (.seq
                      (.ops [⟨some 6, none, .mv (.k (.nils))⟩,
                        ⟨some 7, none, .mv (.k (.int .i64 3))⟩])
                      .ret)
                     .skip))))
                 (.keep [0, 1, 8, 10, 18, 19, 20]
                  (.ops [⟨some 36, none, .mv (.t 8)⟩,
                    ⟨some 37, none, .mv (.t 10)⟩,
                    ⟨some 38, none, .conv .u64 (.t 37)⟩,
                    ⟨some 39, none, .mv (.t 1)⟩,
                    ⟨some 40, none, .bin .mul (.k (.int .i64 8)) (.t 39)⟩,
                    ⟨some 41, none, .bin .sub (.k (.int .i64 64)) (.t 40)⟩,
                    ⟨some 42, none, .bin .shl (.t 38) (.t 41)⟩,
                    ⟨some 43, none, .mv (.t 1)⟩,
                    ⟨some 44, none, .bin .mul (.k (.int .i64 8)) (.t 43)⟩,
                    ⟨some 45, none, .bin .sub (.k (.int .i64 64)) (.t 44)⟩,
                    ⟨some 46, none, .bin .shr (.t 42) (.t 45)⟩,
                    ⟨some 47, none, .bslice 6 1 1 [.int .u64 0] [(0, .t 46)]⟩,
                    ⟨some 48, none, .app 6 1 (.t 36) (.t 47)⟩,
                    ⟨some 8, none, .mv (.t 48)⟩])))))
              (.keep [0, 1, 8, 18, 19, 20]
               (.ops [⟨some 49, none, .bin .add (.t 20) (.k (.int .i64 1))⟩,
                 ⟨some 20, none, .mv (.t 49)⟩]))))))))))
      (.keep [0, 1, 8]
       (.seq
        (.ops [⟨some 50, none, .mv (.t 0)⟩,
          ⟨some 51, none, .mv (.t 1)⟩,
          ⟨some 52, none, .mv (.t 8)⟩,
          ⟨some 53, none, .call 54 [.t 50, .t 51, .t 52]⟩,
          ⟨some 54, none, .ext (.t 53) 0⟩,
          ⟨some 55, none, .ext (.t 53) 1⟩,
          ⟨some 6, none, .mv (.t 54)⟩,
          ⟨some 7, none, .mv (.t 55)⟩])
        (.keep [6, 7]
         .ret)))))))) }
structure N71 (R : Env) : Prop where
  o71 : R.Fn 71 c71
  n54 : N54 R
/-- (*umbra.codec.Reader).Int -/
def c76 : IFn := { np := 2, rs := [.t 4], body :=
 (.seq
  (.ops [⟨some 4, none, .mv (.k (.int .i64 0))⟩])
  (.seq
   (.ops [⟨some 6, none, .mv (.t 0)⟩,
     ⟨some 7, none, .mv (.t 1)⟩,
     ⟨some 8, none, .call 57 [.t 6, .t 7]⟩,
     ⟨some 5, none, .mv (.t 8)⟩])
   (.seq
    (.seq
     (.ops [⟨some 9, none, .mv (.t 1)⟩,
       ⟨some 10, none, .bin .lss (.t 9) (.k (.int .i64 1))⟩,
       ⟨some 11, none, .mv (.t 10)⟩,
       ⟨some 12, some (11, false), .mv (.t 1)⟩,
       ⟨some 13, some (11, false), .bin .gtr (.t 12) (.k (.int .i64 8))⟩,
       ⟨some 14, none, .pick (.t 11) (.k (.bool true)) (.t 13)⟩])
     (.keep [1, 5, 14]
      (.cond (.t 14)
       (.seq
        (.ops [⟨some 4, none, .mv (.k (.int .i64 0))⟩])
        .ret)
       .skip)))
    (.keep [1, 5]
     (.seq
      (.ops [⟨some 15, none, .mv (.t 5)⟩,
        ⟨some 16, none, .conv .i64 (.t 15)⟩,
        ⟨some 17, none, .mv (.t 1)⟩,
        ⟨some 18, none, .bin .mul (.k (.int .i64 8)) (.t 17)⟩,
        ⟨some 19, none, .bin .sub (.k (.int .i64 64)) (.t 18)⟩,
        ⟨some 20, none, .bin .shl (.t 16) (.t 19)⟩,
        ⟨some 21, none, .mv (.t 1)⟩,
        ⟨some 22, none, .bin .mul (.k (.int .i64 8)) (.t 21)⟩,
        ⟨some 23, none, .bin .sub (.k (.int .i64 64)) (.t 22)⟩,
        ⟨some 24, none, .bin .shr (.t 20) (.t 23)⟩,
        ⟨some 4, none, .mv (.t 24)⟩])
      (.keep [4]
       .ret)))))) }
structure N76 (R : Env) : Prop where
  o76 : R.Fn 76 c76
  n57 : N57 R
end Go.UM

/- The resolved code of package mesh, function by function; numbers are those of the register, the same for all programs. -/


namespace Go.UM
open Go.AM
/-- umbra.mesh.Check$1 -/
def c206 : IFn := { np := 1, rs := [.t 2], body :=
 (.seq
  (.ops [⟨some 1, none, .box 26 (.t 0)⟩,
    ⟨some 2, none, .mv (.k (.bool false))⟩])
  (.seq
   (.ops [⟨some 3, none, .fldA 0 (.t 1)⟩,
     ⟨some 4, none, .load false 1 (.t 3)⟩,
     ⟨some 5, none, .fldA 1 (.t 1)⟩,
     ⟨some 6, none, .load false 1 (.t 5)⟩,
     ⟨some 7, none, .fldA 2 (.t 1)⟩,
     ⟨some 8, none, .load false 1 (.t 7)⟩,
     ⟨some 9, none, .mm true [.t 4, .t 6, .t 8]⟩,
     ⟨some 10, none, .bin .gtr (.t 9) (.k (.int .i64 4096))⟩,
     ⟨some 11, none, .mv (.t 10)⟩,
     ⟨some 12, some (11, false), .fldA 0 (.t 1)⟩,
     ⟨some 13, some (11, false), .load false 1 (.t 12)⟩,
     ⟨some 14, some (11, false), .fldA 1 (.t 1)⟩,
     ⟨some 15, some (11, false), .load false 1 (.t 14)⟩,
     ⟨some 16, some (11, false), .fldA 2 (.t 1)⟩,
     ⟨some 17, some (11, false), .load false 1 (.t 16)⟩,
     ⟨some 18, some (11, false), .mm false [.t 13, .t 15, .t 17]⟩,
     ⟨some 19, some (11, false), .bin .lss (.t 18) (.k (.int .i64 (-4096)))⟩,
     ⟨some 20, none, .pick (.t 11) (.k (.bool true)) (.t 19)⟩,
     ⟨some 2, none, .mv (.t 20)⟩])
   (.keep [2]
    .ret))) }
structure N206 (R : Env) : Prop where
  o206 : R.Fn 206 c206
/-- umbra.mesh.Check$2 -/
def c207 : IFn := { np := 1, rs := [.t 2], body :=
 (.seq
  (.ops [⟨some 1, none, .box 18 (.t 0)⟩,
    ⟨some 2, none, .mv (.k (.bool false))⟩])
  (.seq
   (.ops [⟨some 3, none, .idxA 2 1 (.t 1) (.k (.int .i64 0))⟩,
     ⟨some 4, none, .load false 1 (.t 3)⟩,
     ⟨some 5, none, .idxA 2 1 (.t 1) (.k (.int .i64 1))⟩,
     ⟨some 6, none, .load false 1 (.t 5)⟩,
     ⟨some 7, none, .mm false [.t 4, .t 6]⟩,
     ⟨some 8, none, .bin .lss (.t 7) (.k (.int .i64 0))⟩,
     ⟨some 9, none, .mv (.t 8)⟩,
     ⟨some 10, some (9, false), .idxA 2 1 (.t 1) (.k (.int .i64 0))⟩,
     ⟨some 11, some (9, false), .load false 1 (.t 10)⟩,
     ⟨some 12, some (9, false), .idxA 2 1 (.t 1) (.k (.int .i64 1))⟩,
     ⟨some 13, some (9, false), .load false 1 (.t 12)⟩,
     ⟨some 14, some (9, false), .mm true [.t 11, .t 13]⟩,
     ⟨some 15, some (9, false), .bin .gtr (.t 14) (.k (.int .i64 65535))⟩,
     ⟨some 16, none, .pick (.t 9) (.k (.bool true)) (.t 15)⟩,
     ⟨some 2, none, .mv (.t 16)⟩])
   (.keep [2]
    .ret))) }
structure N207 (R : Env) : Prop where
  o207 : R.Fn 207 c207
/-- umbra.mesh.Check$3 -/
def c208 : IFn := { np := 2, rs := [.t 3], body :=
 (.seq
  (.ops [⟨some 2, none, .box 13 (.t 0)⟩,
    ⟨some 3, none, .mv (.k (.bool false))⟩])
  (.seq
   (.ops [⟨some 4, none, .idxA 3 1 (.t 2) (.k (.int .i64 0))⟩,
     ⟨some 5, none, .load false 1 (.t 4)⟩,
     ⟨some 6, none, .idxA 3 1 (.t 2) (.k (.int .i64 1))⟩,
     ⟨some 7, none, .load false 1 (.t 6)⟩,
     ⟨some 8, none, .idxA 3 1 (.t 2) (.k (.int .i64 2))⟩,
     ⟨some 9, none, .load false 1 (.t 8)⟩,
     ⟨some 10, none, .mm false [.t 5, .t 7, .t 9]⟩,
     ⟨some 11, none, .bin .lss (.t 10) (.k (.int .i64 0))⟩,
     ⟨some 12, none, .mv (.t 11)⟩,
     ⟨some 13, some (12, false), .idxA 3 1 (.t 2) (.k (.int .i64 0))⟩,
     ⟨some 14, some (12, false), .load false 1 (.t 13)⟩,
     ⟨some 15, some (12, false), .idxA 3 1 (.t 2) (.k (.int .i64 1))⟩,
     ⟨some 16, some (12, false), .load false 1 (.t 15)⟩,
     ⟨some 17, some (12, false), .idxA 3 1 (.t 2) (.k (.int .i64 2))⟩,
     ⟨some 18, some (12, false), .load false 1 (.t 17)⟩,
     ⟨some 19, some (12, false), .mm true [.t 14, .t 16, .t 18]⟩,
     ⟨some 20, some (12, false), .fldA 0 (.t 1)⟩,
     ⟨some 21, some (12, false), .load false 1 (.t 20)⟩,
     ⟨some 22, some (12, false), .lenS (.t 21)⟩,
     ⟨some 23, some (12, false), .bin .geq (.t 19) (.t 22)⟩,
     ⟨some 24, none, .pick (.t 12) (.k (.bool true)) (.t 23)⟩,
     ⟨some 25, none, .mv (.t 24)⟩,
     ⟨some 26, some (25, false), .idxA 3 1 (.t 2) (.k (.int .i64 0))⟩,
     ⟨some 27, some (25, false), .load false 1 (.t 26)⟩,
     ⟨some 28, some (25, false), .idxA 3 1 (.t 2) (.k (.int .i64 1))⟩,
     ⟨some 29, some (25, false), .load false 1 (.t 28)⟩,
     ⟨some 30, some (25, false), .bin .eql (.t 27) (.t 29)⟩,
     ⟨some 31, none, .pick (.t 25) (.k (.bool true)) (.t 30)⟩,
     ⟨some 32, none, .mv (.t 31)⟩,
     ⟨some 33, some (32, false), .idxA 3 1 (.t 2) (.k (.int .i64 1))⟩,
     ⟨some 34, some (32, false), .load false 1 (.t 33)⟩,
     ⟨some 35, some (32, false), .idxA 3 1 (.t 2) (.k (.int .i64 2))⟩,
     ⟨some 36, some (32, false), .load false 1 (.t 35)⟩,
     ⟨some 37, some (32, false), .bin .eql (.t 34) (.t 36)⟩,
     ⟨some 38, none, .pick (.t 32) (.k (.bool true)) (.t 37)⟩,
     ⟨some 39, none, .mv (.t 38)⟩,
     ⟨some 40, some (39, false), .idxA 3 1 (.t 2) (.k (.int .i64 2))⟩,
     ⟨some 41, some (39, false), .load false 1 (.t 40)⟩,
     ⟨some 42, some (39, false), .idxA 3 1 (.t 2) (.k (.int .i64 0))⟩,
     ⟨some 43, some (39, false), .load false 1 (.t 42)⟩,
     ⟨some 44, some (39, false), .bin .eql (.t 41) (.t 43)⟩,
     ⟨some 45, none, .pick (.t 39) (.k (.bool true)) (.t 44)⟩,
     ⟨some 3, none, .mv (.t 45)⟩])
   (.keep [3]
    .ret))) }
structure N208 (R : Env) : Prop where
  o208 : R.Fn 208 c208
/-- umbra.mesh.Check -/
def c193 : IFn := { np := 1, rs := [.t 2], body :=
 (.seq
  (.ops [⟨some 1, none, .box 25 (.t 0)⟩,
    ⟨some 2, none, .mv (.k (.int .i64 0))⟩])
  (.seq
   (.ops [⟨some 3, none, .mv (.f 206)⟩])
   (.seq
    (.ops [⟨some 4, none, .mv (.f 207)⟩])
    (.seq
     (.ops [⟨some 6, none, .mkf 208 [.t 1]⟩,
       ⟨some 5, none, .mv (.t 6)⟩])
     (.seq
      (.block 0
       (.seq
        (.ops [⟨some 8, none, .fldA 0 (.t 1)⟩,
          ⟨some 9, none, .load false 1 (.t 8)⟩,
          ⟨some 10, none, .lenS (.t 9)⟩,
          ⟨some 11, none, .bin .gtr (.t 10) (.k (.int .i64 64))⟩,
          ⟨some 12, none, .mv (.t 11)⟩,
          ⟨some 13, some (12, false), .fldA 2 (.t 1)⟩,
          ⟨some 14, some (12, false), .load false 1 (.t 13)⟩,
          ⟨some 15, some (12, false), .lenS (.t 14)⟩,
          ⟨some 16, some (12, false), .bin .gtr (.t 15) (.k (.int .i64 64))⟩,
          ⟨some 17, none, .pick (.t 12) (.k (.bool true)) (.t 16)⟩,
          ⟨some 7, none, .mv (.t 17)⟩])
        (.keep [1, 3, 4, 5, 7]
         (.cond (.t 7)
          (.seq
           (.ops [⟨some 2, none, .mv (.k (.int .i64 3))⟩])
           .ret)
          (.seq
           (.ops [⟨some 19, none, .fldA 0 (.t 1)⟩,
             ⟨some 20, none, .load false 1 (.t 19)⟩,
             ⟨some 21, none, .lenS (.t 20)⟩,
             ⟨some 22, none, .bin .eql (.t 21) (.k (.int .i64 0))⟩,
             ⟨some 23, none, .mv (.t 22)⟩,
             ⟨some 24, some (23, false), .fldA 2 (.t 1)⟩,
             ⟨some 25, some (23, false), .load false 1 (.t 24)⟩,
             ⟨some 26, some (23, false), .lenS (.t 25)⟩,
             ⟨some 27, some (23, false), .bin .eql (.t 26) (.k (.int .i64 0))⟩,
             ⟨some 28, none, .pick (.t 23) (.k (.bool true)) (.t 27)⟩,
             ⟨some 29, none, .mv (.t 28)⟩,
             ⟨some 30, some (29, false), .fldA 1 (.t 1)⟩,
             ⟨some 31, some (29, false), .load false 1 (.t 30)⟩,
             ⟨some 32, some (29, false), .lenS (.t 31)⟩,
             ⟨some 33, some (29, false), .fldA 0 (.t 1)⟩,
             ⟨some 34, some (29, false), .load false 1 (.t 33)⟩,
             ⟨some 35, some (29, false), .lenS (.t 34)⟩,
             ⟨some 36, some (29, false), .bin .neq (.t 32) (.t 35)⟩,
             ⟨some 37, none, .pick (.t 29) (.k (.bool true)) (.t 36)⟩,
             ⟨some 18, none, .mv (.t 37)⟩])
           (.keep [1, 3, 4, 5, 18]
            (.cond (.t 18)
             (.seq
              (.ops [⟨some 2, none, .mv (.k (.int .i64 5))⟩])
              .ret)
             (.seq
              (.ops [⟨some 39, none, .fldA 0 (.t 1)⟩,
                ⟨some 40, none, .load false 1 (.t 39)⟩,
                ⟨some 41, none, .mv (.t 3)⟩,
                ⟨some 42, none, .call 209 [.t 40, .t 41]⟩,
                ⟨some 38, none, .mv (.t 42)⟩])
              (.keep [1, 4, 5, 38]
               (.cond (.t 38)
                (.seq
                 (.ops [⟨some 2, none, .mv (.k (.int .i64 8))⟩])
                 .ret)
                (.seq
                 (.ops [⟨some 44, none, .fldA 1 (.t 1)⟩,
                   ⟨some 45, none, .load false 1 (.t 44)⟩,
                   ⟨some 46, none, .mv (.t 4)⟩,
                   ⟨some 47, none, .call 210 [.t 45, .t 46]⟩,
                   ⟨some 48, none, .mv (.t 47)⟩,
                   ⟨some 49, some (48, false), .fldA 2 (.t 1)⟩,
                   ⟨some 50, some (48, false), .load false 1 (.t 49)⟩,
                   ⟨some 51, some (48, false), .mv (.t 5)⟩,
                   ⟨some 52, some (48, false), .call 211 [.t 50, .t 51]⟩,
                   ⟨some 53, none, .pick (.t 48) (.k (.bool true)) (.t 52)⟩,
                   ⟨some 43, none, .mv (.t 53)⟩])
                 (.keep [43]
                  (.cond (.t 43)
                   (.seq
                    (.ops [⟨some 2, none, .mv (.k (.int .i64 5))⟩])
                    .ret)
                   .skip)))))))))))))
      (.keep []
       (.seq
        (.ops [⟨some 2, none, .mv (.k (.int .i64 0))⟩])
        .ret))))))) }
structure N193 (R : Env) : Prop where
  o193 : R.Fn 193 c193
  n206 : N206 R
  n207 : N207 R
  n208 : N208 R
  n209 : N209 R
  n210 : N210 R
  n211 : N211 R
/-- umbra.mesh.Box -/
def c192 : IFn := { np := 1, rs := [.cell 2 true 3, .cell 3 true 3, .t 4], body :=
 (.seq
  (.ops [⟨some 1, none, .box 25 (.t 0)⟩,
    ⟨some 2, none, .alloc 26 [.int .i64 0, .int .i64 0, .int .i64 0]⟩,
    ⟨some 3, none, .alloc 26 [.int .i64 0, .int .i64 0, .int .i64 0]⟩,
    ⟨some 4, none, .mv (.k (.int .i64 0))⟩])
  (.seq
   (.seq
    (.ops [⟨some 11, none, .load true 3 (.t 1)⟩,
      ⟨some 12, none, .call 193 [.t 11]⟩,
      ⟨some 5, none, .mv (.t 12)⟩])
    (.seq
     (.ops [⟨some 13, none, .mv (.t 5)⟩,
       ⟨some 14, none, .bin .neq (.t 13) (.k (.int .i64 0))⟩])
     (.cond (.t 14)
      (.seq
       (.draw [0, 0, 0, 1, 11, 31] [[2], [3], [5], [2, 15], [3, 16], [17]] [⟨some 15, none, .load true 3 (.t 2)⟩,
         ⟨some 16, none, .load true 3 (.t 3)⟩,
         ⟨some 17, none, .mv (.t 5)⟩,
         ⟨none, none, .store 3 (.t 2) (.t 15)⟩,
         ⟨none, none, .store 3 (.t 3) (.t 16)⟩,
         ⟨some 4, none, .mv (.t 17)⟩])
       (.keep [2, 3, 4]
        .ret))
      .skip)))
   (.keep [1, 2, 3]
    (.seq
     (.draw [0, 1, 0, 4, 12, 28, 60, 127, 255, 511] [[1], [18], [1], [20], [21], [22], [23], [19, 24], [25], [2, 26]] [⟨some 18, none, .fldA 0 (.t 1)⟩,
       ⟨some 19, none, .load false 1 (.t 18)⟩,
       ⟨some 20, none, .fldA 2 (.t 1)⟩,
       ⟨some 21, none, .load false 1 (.t 20)⟩,
       ⟨some 22, none, .idxS 3 (.t 21) (.k (.int .i64 0))⟩,
       ⟨some 23, none, .idxA 3 1 (.t 22) (.k (.int .i64 0))⟩,
       ⟨some 24, none, .load false 1 (.t 23)⟩,
       ⟨some 25, none, .idxS 3 (.t 19) (.t 24)⟩,
       ⟨some 26, none, .load true 3 (.t 25)⟩,
       ⟨none, none, .store 3 (.t 2) (.t 26)⟩])
     (.keep [1, 2, 3]
      (.seq
       (.ops [⟨some 27, none, .load true 3 (.t 2)⟩,
         ⟨none, none, .store 3 (.t 3) (.t 27)⟩])
       (.seq
        (.seq
         (.ops [⟨some 28, none, .fldA 2 (.t 1)⟩,
           ⟨some 29, none, .load false 1 (.t 28)⟩,
           ⟨some 30, none, .lenS (.t 29)⟩,
           ⟨some 31, none, .mv (.k (.int .i64 0))⟩])
         (.keep [1, 2, 3, 29, 30, 31]
          (.block 0
           (.loop
            (.seq
             (.ops [⟨some 32, none, .bin .lss (.t 31) (.t 30)⟩])
             (.seq
              (.cond (.t 32)
               .skip
               (.exit 0))
              (.keep [1, 2, 3, 29, 30, 31]
               (.seq
                (.block 1
                 (.seq
                  (.ops [⟨some 33, none, .idxS 3 (.t 29) (.t 31)⟩,
                    ⟨some 34, none, .load true 3 (.t 33)⟩,
                    ⟨some 7, none, .alloc 13 [.int .i64 0, .int .i64 0, .int .i64 0]⟩,
                    ⟨none, none, .store 3 (.t 7) (.t 34)⟩])
                  (.seq
                   (.ops [⟨some 35, none, .load true 3 (.t 7)⟩,
                     ⟨some 36, none, .mv (.k (.int .i64 0))⟩])
                   (.keep [1, 2, 3, 29, 30, 31, 35, 36]
                    (.block 2
                     (.loop
                      (.seq
                       (.ops [⟨some 37, none, .bin .lss (.t 36) (.k (.int .i64 3))⟩])
                       (.seq
                        (.cond (.t 37)
                         .skip
                         (.exit 2))
                        (.keep [1, 2, 3, 29, 30, 31, 35, 36]
                         (.seq
                          (.block 3
                           (.seq
                            (.ops [⟨some 38, none, .idxV false 3 1 (.t 35) (.t 36)⟩,
                              ⟨some 9, none, .mv (.t 38)⟩])
                            (.seq
                             (.ops [⟨some 39, none, .fldA 0 (.t 1)⟩,
                               ⟨some 40, none, .load false 1 (.t 39)⟩,
                               ⟨some 41, none, .mv (.t 9)⟩,
                               ⟨some 42, none, .idxS 3 (.t 40) (.t 41)⟩,
                               ⟨some 43, none, .load true 3 (.t 42)⟩,
                               ⟨some 10, none, .alloc 26 [.int .i64 0, .int .i64 0, .int .i64 0]⟩,
                               ⟨none, none, .store 3 (.t 10) (.t 43)⟩])
                             (.keep [1, 2, 3, 10, 29, 30, 31, 35, 36]
                              (.seq
                               (.ops [⟨some 44, none, .fldA 0 (.t 2)⟩,
                                 ⟨some 45, none, .load false 1 (.t 44)⟩,
                                 ⟨some 46, none, .fldA 0 (.t 10)⟩,
                                 ⟨some 47, none, .load false 1 (.t 46)⟩,
                                 ⟨some 48, none, .mm false [.t 45, .t 47]⟩,
                                 ⟨some 49, none, .fldA 1 (.t 2)⟩,
                                 ⟨some 50, none, .load false 1 (.t 49)⟩,
                                 ⟨some 51, none, .fldA 1 (.t 10)⟩,
                                 ⟨some 52, none, .load false 1 (.t 51)⟩,
                                 ⟨some 53, none, .mm false [.t 50, .t 52]⟩,
                                 ⟨some 54, none, .fldA 2 (.t 2)⟩,
                                 ⟨some 55, none, .load false 1 (.t 54)⟩,
                                 ⟨some 56, none, .fldA 2 (.t 10)⟩,
                                 ⟨some 57, none, .load false 1 (.t 56)⟩,
                                 ⟨some 58, none, .mm false [.t 55, .t 57]⟩,
                                 ⟨some 59, none, .build [.int .i64 0, .int .i64 0, .int .i64 0] [(0, 1, .t 48), (1, 1, .t 53), (2, 1, .t 58)]⟩,
                                 ⟨none, none, .store 3 (.t 2) (.t 59)⟩])
                               (.keep [1, 2, 3, 10, 29, 30, 31, 35, 36]
                                (.ops [⟨some 60, none, .fldA 0 (.t 3)⟩,
                                  ⟨some 61, none, .load false 1 (.t 60)⟩,
                                  ⟨some 62, none, .fldA 0 (.t 10)⟩,
                                  ⟨some 63, none, .load false 1 (.t 62)⟩,
                                  ⟨some 64, none, .mm true [.t 61, .t 63]⟩,
                                  ⟨some 65, none, .fldA 1 (.t 3)⟩,
                                  ⟨some 66, none, .load false 1 (.t 65)⟩,
                                  ⟨some 67, none, .fldA 1 (.t 10)⟩,
                                  ⟨some 68, none, .load false 1 (.t 67)⟩,
                                  ⟨some 69, none, .mm true [.t 66, .t 68]⟩,
                                  ⟨some 70, none, .fldA 2 (.t 3)⟩,
                                  ⟨some 71, none, .load false 1 (.t 70)⟩,
                                  ⟨some 72, none, .fldA 2 (.t 10)⟩,
                                  ⟨some 73, none, .load false 1 (.t 72)⟩,
                                  ⟨some 74, none, .mm true [.t 71, .t 73]⟩,
                                  ⟨some 75, none, .build [.int .i64 0, .int .i64 0, .int .i64 0] [(0, 1, .t 64), (1, 1, .t 69), (2, 1, .t 74)]⟩,
                                  ⟨none, none, .store 3 (.t 3) (.t 75)⟩])))))))
                          (.keep [1, 2, 3, 29, 30, 31, 35, 36]
                           (.ops [⟨some 76, none, .bin .add (.t 36) (.k (.int .i64 1))⟩,
                             ⟨some 36, none, .mv (.t 76)⟩]))))))))))))
                (.keep [1, 2, 3, 29, 30, 31]
                 (.ops [⟨some 77, none, .bin .add (.t 31) (.k (.int .i64 1))⟩,
                   ⟨some 31, none, .mv (.t 77)⟩]))))))))))
        (.keep [2, 3]
         (.seq
          (.draw [0, 0, 1, 7, 15] [[2], [3], [2, 78], [3, 79], []] [⟨some 78, none, .load true 3 (.t 2)⟩,
            ⟨some 79, none, .load true 3 (.t 3)⟩,
            ⟨none, none, .store 3 (.t 2) (.t 78)⟩,
            ⟨none, none, .store 3 (.t 3) (.t 79)⟩,
            ⟨some 4, none, .mv (.k (.int .i64 0))⟩])
          (.keep [2, 3, 4]
           .ret)))))))))) }
structure N192 (R : Env) : Prop where
  o192 : R.Fn 192 c192
  n193 : N193 R
/-- umbra.mesh.Encode -/
def c196 : IFn := { np := 1, rs := [.t 2, .t 3], body :=
 (.seq
  (.ops [⟨some 1, none, .box 25 (.t 0)⟩,
    ⟨some 2, none, .mv (.k (.nils))⟩,
    ⟨some 3, none, .mv (.k (.int .i64 0))⟩])
  (.seq
   (.seq
    (.ops [⟨some 12, none, .load true 3 (.t 1)⟩,
      ⟨some 13, none, .call 193 [.t 12]⟩,
      ⟨some 4, none, .mv (.t 13)⟩])
    (.seq
     (.ops [⟨some 14, none, .mv (.t 4)⟩,
       ⟨some 15, none, .bin .neq (.t 14) (.k (.int .i64 0))⟩])
     (.cond (.t 15)
      (.seq
       (.ops [⟨some 16, none, .mv (.t 4)⟩,
         ⟨some 2, none, .mv (.k (.nils))⟩,
         ⟨some 3, none, .mv (.t 16)⟩])
       .ret)
      .skip)))
   (.keep [1]
    (.seq
     (.ops [⟨some 17, none, .fldA 0 (.t 1)⟩,
       ⟨some 18, none, .load false 1 (.t 17)⟩,
       ⟨some 19, none, .lenS (.t 18)⟩,
       ⟨some 20, none, .conv .u8 (.t 19)⟩,
       ⟨some 21, none, .fldA 2 (.t 1)⟩,
       ⟨some 22, none, .load false 1 (.t 21)⟩,
       ⟨some 23, none, .lenS (.t 22)⟩,
       ⟨some 24, none, .conv .u8 (.t 23)⟩,
       ⟨some 25, none, .bslice 4 1 2 [.int .u8 0] [(0, .t 20), (1, .t 24)]⟩,
       ⟨some 5, none, .mv (.t 25)⟩])
     (.keep [1, 5]
      (.seq
       (.seq
        (.ops [⟨some 26, none, .fldA 0 (.t 1)⟩,
          ⟨some 27, none, .load false 1 (.t 26)⟩,
          ⟨some 28, none, .lenS (.t 27)⟩,
          ⟨some 29, none, .mv (.k (.int .i64 0))⟩])
        (.keep [1, 5, 27, 28, 29]
         (.block 0
          (.loop
           (.seq
            (.ops [⟨some 30, none, .bin .lss (.t 29) (.t 28)⟩])
            (.seq
             (.cond (.t 30)
              .skip
              (.exit 0))
             (.keep [1, 5, 27, 28, 29]
              (.seq
               (.block 1
                (.seq
                 (.ops [⟨some 31, none, .idxS 3 (.t 27) (.t 29)⟩,
                   ⟨some 32, none, .load true 3 (.t 31)⟩,
                   ⟨some 7, none, .alloc 26 [.int .i64 0, .int .i64 0, .int .i64 0]⟩,
                   ⟨none, none, .store 3 (.t 7) (.t 32)⟩])
                 (.ops [⟨some 34, none, .mv (.t 5)⟩,
                   ⟨some 35, none, .fldA 0 (.t 7)⟩,
                   ⟨some 36, none, .load false 1 (.t 35)⟩,
                   ⟨some 37, none, .fldA 1 (.t 7)⟩,
                   ⟨some 38, none, .load false 1 (.t 37)⟩,
                   ⟨some 39, none, .fldA 2 (.t 7)⟩,
                   ⟨some 40, none, .load false 1 (.t 39)⟩,
                   ⟨some 41, none, .bslice 10 1 3 [.int .i64 0] [(0, .t 36), (1, .t 38), (2, .t 40)]⟩,
                   ⟨some 42, none, .call 71 [.t 34, .k (.int .i64 2), .t 41]⟩,
                   ⟨some 33, none, .mv (.t 42)⟩,
                   ⟨some 43, none, .ext (.t 33) 0⟩,
                   ⟨some 44, none, .ext (.t 33) 1⟩,
                   ⟨some 5, none, .mv (.t 43)⟩])))
               (.keep [1, 5, 27, 28, 29]
                (.ops [⟨some 45, none, .bin .add (.t 29) (.k (.int .i64 1))⟩,
                  ⟨some 29, none, .mv (.t 45)⟩]))))))))))
       (.keep [1, 5]
        (.seq
         (.seq
          (.ops [⟨some 46, none, .fldA 1 (.t 1)⟩,
            ⟨some 47, none, .load false 1 (.t 46)⟩,
            ⟨some 48, none, .lenS (.t 47)⟩,
            ⟨some 49, none, .mv (.k (.int .i64 0))⟩])
          (.keep [1, 5, 47, 48, 49]
           (.block 2
            (.loop
             (.seq
              (.ops [⟨some 50, none, .bin .lss (.t 49) (.t 48)⟩])
              (.seq
               (.cond (.t 50)
                .skip
                (.exit 2))
               (.keep [1, 5, 47, 48, 49]
                (.seq
                 (.block 3
                  (.seq
                   (.ops [⟨some 51, none, .idxS 2 (.t 47) (.t 49)⟩,
                     ⟨some 52, none, .load true 2 (.t 51)⟩,
                     ⟨some 9, none, .alloc 18 [.int .i64 0, .int .i64 0]⟩,
                     ⟨none, none, .store 2 (.t 9) (.t 52)⟩])
                   (.ops [⟨some 54, none, .mv (.t 5)⟩,
                     ⟨some 55, none, .idxA 2 1 (.t 9) (.k (.int .i64 0))⟩,
                     ⟨some 56, none, .load false 1 (.t 55)⟩,
                     ⟨some 57, none, .conv .u64 (.t 56)⟩,
                     ⟨some 58, none, .idxA 2 1 (.t 9) (.k (.int .i64 1))⟩,
                     ⟨some 59, none, .load false 1 (.t 58)⟩,
                     ⟨some 60, none, .conv .u64 (.t 59)⟩,
                     ⟨some 61, none, .bslice 6 1 2 [.int .u64 0] [(0, .t 57), (1, .t 60)]⟩,
                     ⟨some 62, none, .call 54 [.t 54, .k (.int .i64 2), .t 61]⟩,
                     ⟨some 53, none, .mv (.t 62)⟩,
                     ⟨some 63, none, .ext (.t 53) 0⟩,
                     ⟨some 64, none, .ext (.t 53) 1⟩,
                     ⟨some 5, none, .mv (.t 63)⟩])))
                 (.keep [1, 5, 47, 48, 49]
                  (.ops [⟨some 65, none, .bin .add (.t 49) (.k (.int .i64 1))⟩,
                    ⟨some 49, none, .mv (.t 65)⟩]))))))))))
         (.keep [1, 5]
          (.seq
           (.seq
            (.ops [⟨some 66, none, .fldA 2 (.t 1)⟩,
              ⟨some 67, none, .load false 1 (.t 66)⟩,
              ⟨some 68, none, .lenS (.t 67)⟩,
              ⟨some 69, none, .mv (.k (.int .i64 0))⟩])
            (.keep [5, 67, 68, 69]
             (.block 4
              (.loop
               (.seq
                (.ops [⟨some 70, none, .bin .lss (.t 69) (.t 68)⟩])
                (.seq
                 (.cond (.t 70)
                  .skip
                  (.exit 4))
                 (.keep [5, 67, 68, 69]
                  (.seq
                   (.block 5
                    (.seq
                     (.ops [⟨some 71, none, .idxS 3 (.t 67) (.t 69)⟩,
                       ⟨some 72, none, .load true 3 (.t 71)⟩,
                       ⟨some 11, none, .alloc 13 [.int .i64 0, .int .i64 0, .int .i64 0]⟩,
                       ⟨none, none, .store 3 (.t 11) (.t 72)⟩])
                     (.ops [⟨some 73, none, .mv (.t 5)⟩,
                       ⟨some 74, none, .idxA 3 1 (.t 11) (.k (.int .i64 0))⟩,
                       ⟨some 75, none, .load false 1 (.t 74)⟩,
                       ⟨some 76, none, .conv .u8 (.t 75)⟩,
                       ⟨some 77, none, .idxA 3 1 (.t 11) (.k (.int .i64 1))⟩,
                       ⟨some 78, none, .load false 1 (.t 77)⟩,
                       ⟨some 79, none, .conv .u8 (.t 78)⟩,
                       ⟨some 80, none, .idxA 3 1 (.t 11) (.k (.int .i64 2))⟩,
                       ⟨some 81, none, .load false 1 (.t 80)⟩,
                       ⟨some 82, none, .conv .u8 (.t 81)⟩,
                       ⟨some 83, none, .bslice 4 1 3 [.int .u8 0] [(0, .t 76), (1, .t 79), (2, .t 82)]⟩,
                       ⟨some 84, none, .app 4 1 (.t 73) (.t 83)⟩,
                       ⟨some 5, none, .mv (.t 84)⟩])))
                   (.keep [5, 67, 68, 69]
                    (.ops [⟨some 85, none, .bin .add (.t 69) (.k (.int .i64 1))⟩,
                      ⟨some 69, none, .mv (.t 85)⟩]))))))))))
           (.keep [5]
            (.seq
             (.ops [⟨some 86, none, .mv (.t 5)⟩,
               ⟨some 2, none, .mv (.t 86)⟩,
               ⟨some 3, none, .mv (.k (.int .i64 0))⟩])
             .ret)))))))))))) }
structure N196 (R : Env) : Prop where
  o196 : R.Fn 196 c196
  n54 : N54 R
  n71 : N71 R
  n193 : N193 R
/-- umbra.mesh.Corners -/
def c200 : IFn := { np := 2, rs := [.cell 4 true 9, .cell 5 true 6, .t 6], body :=
 (.seq
  (.ops [⟨some 2, none, .box 25 (.t 0)⟩,
    ⟨some 4, none, .alloc 28 [.int .i64 0, .int .i64 0, .int .i64 0, .int .i64 0, .int .i64 0, .int .i64 0, .int .i64 0, .int .i64 0, .int .i64 0]⟩,
    ⟨some 5, none, .alloc 29 [.int .i64 0, .int .i64 0, .int .i64 0, .int .i64 0, .int .i64 0, .int .i64 0]⟩,
    ⟨some 6, none, .mv (.k (.int .i64 0))⟩])
  (.seq
   (.seq
    (.ops [⟨some 10, none, .load true 3 (.t 2)⟩,
      ⟨some 11, none, .call 193 [.t 10]⟩,
      ⟨some 7, none, .mv (.t 11)⟩])
    (.seq
     (.ops [⟨some 12, none, .mv (.t 7)⟩,
       ⟨some 13, none, .bin .neq (.t 12) (.k (.int .i64 0))⟩])
     (.cond (.t 13)
      (.seq
       (.draw [0, 0, 0, 1, 11, 31] [[4], [5], [7], [4, 14], [5, 15], [16]] [⟨some 14, none, .load true 9 (.t 4)⟩,
         ⟨some 15, none, .load true 6 (.t 5)⟩,
         ⟨some 16, none, .mv (.t 7)⟩,
         ⟨none, none, .store 9 (.t 4) (.t 14)⟩,
         ⟨none, none, .store 6 (.t 5) (.t 15)⟩,
         ⟨some 6, none, .mv (.t 16)⟩])
       (.keep [4, 5, 6]
        .ret))
      .skip)))
   (.keep [1, 2, 4, 5]
    (.seq
     (.seq
      (.ops [⟨some 17, none, .mv (.t 1)⟩,
        ⟨some 18, none, .bin .lss (.t 17) (.k (.int .i64 0))⟩,
        ⟨some 19, none, .mv (.t 18)⟩,
        ⟨some 20, some (19, false), .mv (.t 1)⟩,
        ⟨some 21, some (19, false), .fldA 2 (.t 2)⟩,
        ⟨some 22, some (19, false), .load false 1 (.t 21)⟩,
        ⟨some 23, some (19, false), .lenS (.t 22)⟩,
        ⟨some 24, some (19, false), .bin .geq (.t 20) (.t 23)⟩,
        ⟨some 25, none, .pick (.t 19) (.k (.bool true)) (.t 24)⟩])
      (.keep [1, 2, 4, 5, 25]
       (.cond (.t 25)
        (.seq
         (.draw [0, 0, 1, 7, 15] [[4], [5], [4, 26], [5, 27], []] [⟨some 26, none, .load true 9 (.t 4)⟩,
           ⟨some 27, none, .load true 6 (.t 5)⟩,
           ⟨none, none, .store 9 (.t 4) (.t 26)⟩,
           ⟨none, none, .store 6 (.t 5) (.t 27)⟩,
           ⟨some 6, none, .mv (.k (.int .i64 2))⟩])
         (.keep [4, 5, 6]
          .ret))
        .skip)))
     (.keep [1, 2, 4, 5]
      (.seq
       (.seq
        (.ops [⟨some 28, none, .fldA 2 (.t 2)⟩,
          ⟨some 29, none, .load false 1 (.t 28)⟩,
          ⟨some 30, none, .mv (.t 1)⟩,
          ⟨some 31, none, .idxS 3 (.t 29) (.t 30)⟩,
          ⟨some 32, none, .load true 3 (.t 31)⟩,
          ⟨some 33, none, .mv (.k (.int .i64 0))⟩])
        (.keep [2, 4, 5, 32, 33]
         (.block 0
          (.loop
           (.seq
            (.ops [⟨some 34, none, .bin .lss (.t 33) (.k (.int .i64 3))⟩])
            (.seq
             (.cond (.t 34)
              .skip
              (.exit 0))
             (.keep [2, 4, 5, 32, 33]
              (.seq
               (.block 1
                (.seq
                 (.ops [⟨some 35, none, .mv (.t 33)⟩,
                   ⟨some 36, none, .idxV false 3 1 (.t 32) (.t 33)⟩,
                   ⟨some 8, none, .mv (.t 35)⟩,
                   ⟨some 9, none, .mv (.t 36)⟩])
                 (.draw [0, 0, 0, 4, 0, 28, 60, 0, 128, 0, 896, 1920, 125, 4221, 16383, 32767] [[8], [8], [2], [39], [9], [40, 41], [42], [2], [44], [9], [45, 46], [47], [4, 37], [49, 43], [5, 38], [50, 48]] [⟨some 37, none, .mv (.t 8)⟩,
                   ⟨some 38, none, .mv (.t 8)⟩,
                   ⟨some 39, none, .fldA 0 (.t 2)⟩,
                   ⟨some 40, none, .load false 1 (.t 39)⟩,
                   ⟨some 41, none, .mv (.t 9)⟩,
                   ⟨some 42, none, .idxS 3 (.t 40) (.t 41)⟩,
                   ⟨some 43, none, .load true 3 (.t 42)⟩,
                   ⟨some 44, none, .fldA 1 (.t 2)⟩,
                   ⟨some 45, none, .load false 1 (.t 44)⟩,
                   ⟨some 46, none, .mv (.t 9)⟩,
                   ⟨some 47, none, .idxS 2 (.t 45) (.t 46)⟩,
                   ⟨some 48, none, .load true 2 (.t 47)⟩,
                   ⟨some 49, none, .idxA 3 3 (.t 4) (.t 37)⟩,
                   ⟨none, none, .store 3 (.t 49) (.t 43)⟩,
                   ⟨some 50, none, .idxA 3 2 (.t 5) (.t 38)⟩,
                   ⟨none, none, .store 2 (.t 50) (.t 48)⟩])))
               (.keep [2, 4, 5, 32, 33]
                (.ops [⟨some 51, none, .bin .add (.t 33) (.k (.int .i64 1))⟩,
                  ⟨some 33, none, .mv (.t 51)⟩]))))))))))
       (.keep [4, 5]
        (.seq
         (.draw [0, 0, 1, 7, 15] [[4], [5], [4, 52], [5, 53], []] [⟨some 52, none, .load true 9 (.t 4)⟩,
           ⟨some 53, none, .load true 6 (.t 5)⟩,
           ⟨none, none, .store 9 (.t 4) (.t 52)⟩,
           ⟨none, none, .store 6 (.t 5) (.t 53)⟩,
           ⟨some 6, none, .mv (.k (.int .i64 0))⟩])
         (.keep [4, 5, 6]
          .ret))))))))) }
structure N200 (R : Env) : Prop where
  o200 : R.Fn 200 c200
  n193 : N193 R
/-- (umbra.mesh.decoder).uint -/
def c214 : IFn := { np := 2, rs := [.t 4], body :=
 (.seq
  (.ops [⟨some 2, none, .box 30 (.t 0)⟩,
    ⟨some 4, none, .mv (.k (.int .i64 0))⟩])
  (.seq
   (.ops [⟨some 5, none, .fldA 0 (.t 2)⟩,
     ⟨some 6, none, .load false 1 (.t 5)⟩,
     ⟨some 7, none, .mv (.t 1)⟩,
     ⟨some 8, none, .call 57 [.t 6, .t 7]⟩,
     ⟨some 9, none, .conv .i64 (.t 8)⟩,
     ⟨some 4, none, .mv (.t 9)⟩])
   (.keep [4]
    .ret))) }
structure N214 (R : Env) : Prop where
  o214 : R.Fn 214 c214
  n57 : N57 R
/-- (umbra.mesh.decoder).point -/
def c215 : IFn := { np := 1, rs := [.cell 2 true 3], body :=
 (.seq
  (.ops [⟨some 1, none, .box 30 (.t 0)⟩,
    ⟨some 2, none, .alloc 26 [.int .i64 0, .int .i64 0, .int .i64 0]⟩])
  (.seq
   (.draw [0, 1, 3, 0, 8, 31, 0, 64, 255, 511, 1023] [[1], [3], [4], [1], [6], [7], [1], [9], [10], [5, 8, 11], [2, 12]] [⟨some 3, none, .fldA 0 (.t 1)⟩,
     ⟨some 4, none, .load false 1 (.t 3)⟩,
     ⟨some 5, none, .call 76 [.t 4, .k (.int .i64 2)]⟩,
     ⟨some 6, none, .fldA 0 (.t 1)⟩,
     ⟨some 7, none, .load false 1 (.t 6)⟩,
     ⟨some 8, none, .call 76 [.t 7, .k (.int .i64 2)]⟩,
     ⟨some 9, none, .fldA 0 (.t 1)⟩,
     ⟨some 10, none, .load false 1 (.t 9)⟩,
     ⟨some 11, none, .call 76 [.t 10, .k (.int .i64 2)]⟩,
     ⟨some 12, none, .build [.int .i64 0, .int .i64 0, .int .i64 0] [(0, 1, .t 5), (1, 1, .t 8), (2, 1, .t 11)]⟩,
     ⟨none, none, .store 3 (.t 2) (.t 12)⟩])
   (.keep [2]
    .ret))) }
structure N215 (R : Env) : Prop where
  o215 : R.Fn 215 c215
  n76 : N76 R
/-- umbra.mesh.Decode -/
def c202 : IFn := { np := 1, rs := [.cell 2 true 3, .t 3], body :=
 (.seq
  (.ops [⟨some 2, none, .alloc 25 [.nils, .nils, .nils]⟩,
    ⟨some 3, none, .mv (.k (.int .i64 0))⟩])
  (.seq
   (.ops [⟨some 10, none, .mv (.t 0)⟩,
     ⟨some 11, none, .call 56 [.t 10]⟩,
     ⟨some 12, none, .build [.nilp] [(0, 1, .t 11)]⟩,
     ⟨some 4, none, .alloc 30 [.nilp]⟩,
     ⟨none, none, .store 1 (.t 4) (.t 12)⟩])
   (.keep [2, 4]
    (.seq
     (.draw [0, 1, 0, 7, 15, 31] [[4], [13], [4], [15], [14], [16]] [⟨some 13, none, .load true 1 (.t 4)⟩,
       ⟨some 14, none, .call 214 [.t 13, .k (.int .i64 1)]⟩,
       ⟨some 15, none, .load true 1 (.t 4)⟩,
       ⟨some 16, none, .call 214 [.t 15, .k (.int .i64 1)]⟩,
       ⟨some 5, none, .mv (.t 14)⟩,
       ⟨some 6, none, .mv (.t 16)⟩])
     (.keep [2, 4, 5, 6]
      (.seq
       (.ops [⟨some 7, none, .alloc 25 [.nils, .nils, .nils]⟩])
       (.seq
        (.seq
         (.ops [⟨some 17, none, .mv (.t 5)⟩,
           ⟨some 18, none, .mv (.k (.int .i64 0))⟩])
         (.keep [2, 4, 5, 6, 7, 17, 18]
          (.block 0
           (.loop
            (.seq
             (.ops [⟨some 19, none, .bin .lss (.t 18) (.t 17)⟩])
             (.seq
              (.cond (.t 19)
               .skip
               (.exit 0))
              (.keep [2, 4, 5, 6, 7, 17, 18]
               (.seq
                (.block 1
                 (.draw [0, 1, 0, 4, 12, 31, 63, 127] [[7], [20], [4], [22], [23], [21, 24], [7], [26, 25]] [⟨some 20, none, .fldA 0 (.t 7)⟩,
                   ⟨some 21, none, .load false 1 (.t 20)⟩,
                   ⟨some 22, none, .load true 1 (.t 4)⟩,
                   ⟨some 23, none, .call 215 [.t 22]⟩,
                   ⟨some 24, none, .bslice 26 3 1 [.int .i64 0, .int .i64 0, .int .i64 0] [(0, .t 23)]⟩,
                   ⟨some 25, none, .app 26 3 (.t 21) (.t 24)⟩,
                   ⟨some 26, none, .fldA 0 (.t 7)⟩,
                   ⟨none, none, .store 1 (.t 26) (.t 25)⟩]))
                (.keep [2, 4, 5, 6, 7, 17, 18]
                 (.ops [⟨some 27, none, .bin .add (.t 18) (.k (.int .i64 1))⟩,
                   ⟨some 18, none, .mv (.t 27)⟩]))))))))))
        (.keep [2, 4, 5, 6, 7]
         (.seq
          (.seq
           (.ops [⟨some 28, none, .mv (.t 5)⟩,
             ⟨some 29, none, .mv (.k (.int .i64 0))⟩])
           (.keep [2, 4, 6, 7, 28, 29]
            (.block 2
             (.loop
              (.seq
               (.ops [⟨some 30, none, .bin .lss (.t 29) (.t 28)⟩])
               (.seq
                (.cond (.t 30)
                 .skip
                 (.exit 2))
                (.keep [2, 4, 6, 7, 28, 29]
                 (.seq
                  (.block 3
                   (.draw [0, 1, 0, 4, 0, 28, 60, 124, 255, 511, 1023] [[7], [31], [4], [33], [4], [35], [34, 36], [37], [32, 38], [7], [40, 39]] [⟨some 31, none, .fldA 1 (.t 7)⟩,
                     ⟨some 32, none, .load false 1 (.t 31)⟩,
                     ⟨some 33, none, .load true 1 (.t 4)⟩,
                     ⟨some 34, none, .call 214 [.t 33, .k (.int .i64 2)]⟩,
                     ⟨some 35, none, .load true 1 (.t 4)⟩,
                     ⟨some 36, none, .call 214 [.t 35, .k (.int .i64 2)]⟩,
                     ⟨some 37, none, .build [.int .i64 0, .int .i64 0] [(0, 1, .t 34), (1, 1, .t 36)]⟩,
                     ⟨some 38, none, .bslice 18 2 1 [.int .i64 0, .int .i64 0] [(0, .t 37)]⟩,
                     ⟨some 39, none, .app 18 2 (.t 32) (.t 38)⟩,
                     ⟨some 40, none, .fldA 1 (.t 7)⟩,
                     ⟨none, none, .store 1 (.t 40) (.t 39)⟩]))
                  (.keep [2, 4, 6, 7, 28, 29]
                   (.ops [⟨some 41, none, .bin .add (.t 29) (.k (.int .i64 1))⟩,
                     ⟨some 29, none, .mv (.t 41)⟩]))))))))))
          (.keep [2, 4, 6, 7]
           (.seq
            (.seq
             (.ops [⟨some 42, none, .mv (.t 6)⟩,
               ⟨some 43, none, .mv (.k (.int .i64 0))⟩])
             (.keep [2, 4, 7, 42, 43]
              (.block 4
               (.loop
                (.seq
                 (.ops [⟨some 44, none, .bin .lss (.t 43) (.t 42)⟩])
                 (.seq
                  (.cond (.t 44)
                   .skip
                   (.exit 4))
                  (.keep [2, 4, 7, 42, 43]
                   (.seq
                    (.block 5
                     (.draw [0, 1, 0, 4, 0, 28, 0, 124, 252, 508, 1023, 2047, 4095] [[7], [45], [4], [47], [4], [49], [4], [51], [48, 50, 52], [53], [46, 54], [7], [56, 55]] [⟨some 45, none, .fldA 2 (.t 7)⟩,
                       ⟨some 46, none, .load false 1 (.t 45)⟩,
                       ⟨some 47, none, .load true 1 (.t 4)⟩,
                       ⟨some 48, none, .call 214 [.t 47, .k (.int .i64 1)]⟩,
                       ⟨some 49, none, .load true 1 (.t 4)⟩,
                       ⟨some 50, none, .call 214 [.t 49, .k (.int .i64 1)]⟩,
                       ⟨some 51, none, .load true 1 (.t 4)⟩,
                       ⟨some 52, none, .call 214 [.t 51, .k (.int .i64 1)]⟩,
                       ⟨some 53, none, .build [.int .i64 0, .int .i64 0, .int .i64 0] [(0, 1, .t 48), (1, 1, .t 50), (2, 1, .t 52)]⟩,
                       ⟨some 54, none, .bslice 13 3 1 [.int .i64 0, .int .i64 0, .int .i64 0] [(0, .t 53)]⟩,
                       ⟨some 55, none, .app 13 3 (.t 46) (.t 54)⟩,
                       ⟨some 56, none, .fldA 2 (.t 7)⟩,
                       ⟨none, none, .store 1 (.t 56) (.t 55)⟩]))
                    (.keep [2, 4, 7, 42, 43]
                     (.ops [⟨some 57, none, .bin .add (.t 43) (.k (.int .i64 1))⟩,
                       ⟨some 43, none, .mv (.t 57)⟩]))))))))))
            (.keep [2, 4, 7]
             (.seq
              (.seq
               (.ops [⟨some 58, none, .fldA 0 (.t 4)⟩,
                 ⟨some 59, none, .load false 1 (.t 58)⟩,
                 ⟨some 60, none, .call 60 [.t 59]⟩,
                 ⟨some 8, none, .mv (.t 60)⟩])
               (.seq
                (.ops [⟨some 61, none, .mv (.t 8)⟩,
                  ⟨some 62, none, .bin .neq (.t 61) (.k (.int .i64 0))⟩])
                (.cond (.t 62)
                 (.seq
                  (.ops [⟨some 63, none, .build [.nils, .nils, .nils] []⟩,
                    ⟨some 64, none, .mv (.t 8)⟩,
                    ⟨none, none, .store 3 (.t 2) (.t 63)⟩,
                    ⟨some 3, none, .mv (.t 64)⟩])
                  .ret)
                 .skip)))
              (.keep [2, 7]
               (.seq
                (.seq
                 (.ops [⟨some 65, none, .load true 3 (.t 7)⟩,
                   ⟨some 66, none, .call 193 [.t 65]⟩,
                   ⟨some 9, none, .mv (.t 66)⟩])
                 (.seq
                  (.ops [⟨some 67, none, .mv (.t 9)⟩,
                    ⟨some 68, none, .bin .neq (.t 67) (.k (.int .i64 0))⟩])
                  (.cond (.t 68)
                   (.seq
                    (.ops [⟨some 69, none, .build [.nils, .nils, .nils] []⟩,
                      ⟨some 70, none, .mv (.t 9)⟩,
                      ⟨none, none, .store 3 (.t 2) (.t 69)⟩,
                      ⟨some 3, none, .mv (.t 70)⟩])
                    .ret)
                   .skip)))
                (.keep [2, 7]
                 (.seq
                  (.ops [⟨some 71, none, .load true 3 (.t 7)⟩,
                    ⟨none, none, .store 3 (.t 2) (.t 71)⟩,
                    ⟨some 3, none, .mv (.k (.int .i64 0))⟩])
                  .ret))))))))))))))))) }
structure N202 (R : Env) : Prop where
  o202 : R.Fn 202 c202
  n56 : N56 R
  n60 : N60 R
  n193 : N193 R
  n214 : N214 R
  n215 : N215 R
end Go.UM

/- The resolved code of package umbraref11, function by function; numbers are those of the register, the same for all programs. -/

namespace Go.UM
open Go.AM
/-- umbra.umbraref11.most -/
def c63 : IFn := { np := 1, rs := [.t 2], body :=
 (.seq
  (.ops [⟨some 2, none, .mv (.k (.int .u64 0))⟩])
  (.seq
   (.ops [⟨some 3, none, .mv (.k (.int .u64 0))⟩])
   (.seq
    (.seq
     (.ops [⟨some 4, none, .mv (.k (.int .i64 0))⟩])
     (.keep [0, 3, 4]
      (.block 0
       (.loop
        (.seq
         (.seq
          (.ops [⟨some 5, none, .mv (.t 4)⟩,
            ⟨some 6, none, .mv (.t 0)⟩,
            ⟨some 7, none, .bin .lss (.t 5) (.t 6)⟩])
          (.cond (.t 7)
           .skip
           (.exit 0)))
         (.keep [0, 3, 4]
          (.seq
           (.block 1
            (.ops [⟨some 10, none, .mv (.t 3)⟩,
              ⟨some 11, none, .bin .mul (.t 10) (.k (.int .u64 256))⟩,
              ⟨some 12, none, .bin .add (.t 11) (.k (.int .u64 255))⟩,
              ⟨some 3, none, .mv (.t 12)⟩]))
           (.keep [0, 3, 4]
            (.ops [⟨some 8, none, .mv (.t 4)⟩,
              ⟨some 9, none, .bin .add (.t 8) (.k (.int .i64 1))⟩,
              ⟨some 4, none, .mv (.t 9)⟩])))))))))
    (.keep [3]
     (.seq
      (.ops [⟨some 13, none, .mv (.t 3)⟩,
        ⟨some 2, none, .mv (.t 13)⟩])
      .ret))))) }
structure N63 (R : Env) : Prop where
  o63 : R.Fn 63 c63
/-- umbra.umbraref11.Put -/
def c55 : IFn := { np := 3, rs := [.t 6, .t 7], body :=
 (.seq
  (.ops [⟨some 6, none, .mv (.k (.nils))⟩,
    ⟨some 7, none, .mv (.k (.int .i64 0))⟩])
  (.seq
   (.seq
    (.ops [⟨some 12, none, .mv (.t 1)⟩,
      ⟨some 13, none, .bin .lss (.t 12) (.k (.int .i64 1))⟩,
      ⟨some 14, none, .mv (.t 13)⟩,
      ⟨some 15, some (14, false), .mv (.t 1)⟩,
      ⟨some 16, some (14, false), .bin .gtr (.t 15) (.k (.int .i64 8))⟩,
      ⟨some 17, none, .pick (.t 14) (.k (.bool true)) (.t 16)⟩])
    (.keep [0, 1, 2, 17]
     (.cond (.t 17)
      (.seq
       (.ops [⟨some 6, none, .mv (.k (.nils))⟩,
         ⟨some 7, none, .mv (.k (.int .i64 2))⟩])
       .ret)
      .skip)))
   (.keep [0, 1, 2]
    (.seq
     (.ops [⟨some 18, none, .bslice 4 1 0 [.int .u8 0] []⟩,
       ⟨some 19, none, .mv (.t 0)⟩,
       ⟨some 20, none, .app 4 1 (.t 18) (.t 19)⟩,
       ⟨some 8, none, .mv (.t 20)⟩])
     (.seq
      (.seq
       (.ops [⟨some 9, none, .mv (.k (.int .i64 0))⟩])
       (.keep [1, 2, 8, 9]
        (.block 0
         (.loop
          (.seq
           (.seq
            (.ops [⟨some 21, none, .mv (.t 9)⟩,
              ⟨some 22, none, .mv (.t 2)⟩,
              ⟨some 23, none, .lenS (.t 22)⟩,
              ⟨some 24, none, .bin .lss (.t 21) (.t 23)⟩])
            (.cond (.t 24)
             .skip
             (.exit 0)))
           (.keep [1, 2, 8, 9]
            (.seq
             (.block 1
              (.seq
               (.seq
                (.draw [0, 0, 3, 7, 0, 16, 63] [[2], [9], [27, 28], [29], [1], [31], [30, 32]] [⟨some 27, none, .mv (.t 2)⟩,
                  ⟨some 28, none, .mv (.t 9)⟩,
                  ⟨some 29, none, .idxS 1 (.t 27) (.t 28)⟩,
                  ⟨some 30, none, .load false 1 (.t 29)⟩,
                  ⟨some 31, none, .mv (.t 1)⟩,
                  ⟨some 32, none, .call 63 [.t 31]⟩,
                  ⟨some 33, none, .bin .gtr (.t 30) (.t 32)⟩])
                (.keep [1, 2, 8, 9, 33]
                 (.cond (.t 33)
                  (.seq
                   (.ops [⟨some 6, none, .mv (.k (.nils))⟩,
                     ⟨some 7, none, .mv (.k (.int .i64 3))⟩])
                   .ret)
                  .skip)))
               (.keep [1, 2, 8, 9]
                (.seq
                 (.ops [⟨some 34, none, .mv (.t 2)⟩,
                   ⟨some 35, none, .mv (.t 9)⟩,
                   ⟨some 36, none, .idxS 1 (.t 34) (.t 35)⟩,
                   ⟨some 37, none, .load false 1 (.t 36)⟩,
                   ⟨some 10, none, .mv (.t 37)⟩])
                 (.keep [1, 2, 8, 9, 10]
                  (.seq
                   (.ops [⟨some 11, none, .mv (.k (.int .i64 0))⟩])
                   (.keep [1, 2, 8, 9, 10, 11]
                    (.block 2
                     (.loop
                      (.seq
                       (.seq
                        (.ops [⟨some 38, none, .mv (.t 11)⟩,
                          ⟨some 39, none, .mv (.t 1)⟩,
                          ⟨some 40, none, .bin .lss (.t 38) (.t 39)⟩])
                        (.cond (.t 40)
                         .skip
                         (.exit 2)))
                       (.keep [1, 2, 8, 9, 10, 11]
                        (.seq
                         (.block 3
                          (.seq
                           (.ops [⟨some 43, none, .mv (.t 8)⟩,
                             ⟨some 44, none, .mv (.t 10)⟩,
                             ⟨some 45, none, .bin .rem (.t 44) (.k (.int .u64 256))⟩,
                             ⟨some 46, none, .conv .u8 (.t 45)⟩,
                             ⟨some 47, none, .bslice 4 1 1 [.int .u8 0] [(0, .t 46)]⟩,
                             ⟨some 48, none, .app 4 1 (.t 43) (.t 47)⟩,
                             ⟨some 8, none, .mv (.t 48)⟩])
                           (.keep [1, 2, 8, 9, 10, 11]
                            (.ops [⟨some 49, none, .mv (.t 10)⟩,
                              ⟨some 50, none, .bin .quo (.t 49) (.k (.int .u64 256))⟩,
                              ⟨some 10, none, .mv (.t 50)⟩]))))
                         (.keep [1, 2, 8, 9, 10, 11]
                          (.ops [⟨some 41, none, .mv (.t 11)⟩,
                            ⟨some 42, none, .bin .add (.t 41) (.k (.int .i64 1))⟩,
                            ⟨some 11, none, .mv (.t 42)⟩]))))))))))))))
             (.keep [1, 2, 8, 9]
              (.ops [⟨some 25, none, .mv (.t 9)⟩,
                ⟨some 26, none, .bin .add (.t 25) (.k (.int .i64 1))⟩,
                ⟨some 9, none, .mv (.t 26)⟩])))))))))
      (.keep [8]
       (.seq
        (.ops [⟨some 51, none, .mv (.t 8)⟩,
          ⟨some 6, none, .mv (.t 51)⟩,
          ⟨some 7, none, .mv (.k (.int .i64 0))⟩])
        .ret))))))) }
structure N55 (R : Env) : Prop where
  o55 : R.Fn 55 c55
  n63 : N63 R
/-- (*umbra.umbraref11.Reader).Take -/
def c66 : IFn := { np := 2, rs := [.t 4], body :=
 (.seq
  (.ops [⟨some 4, none, .mv (.k (.nils))⟩])
  (.seq
   (.seq
    (.ops [⟨some 5, none, .mv (.t 0)⟩,
      ⟨some 6, none, .nilck (.t 5)⟩,
      ⟨some 7, none, .fldA 2 (.t 6)⟩,
      ⟨some 8, none, .load false 1 (.t 7)⟩,
      ⟨some 9, none, .bin .eql (.t 8) (.k (.int .i64 0))⟩,
      ⟨some 10, none, .mv (.t 9)⟩,
      ⟨some 11, some (10, true), .mv (.t 1)⟩,
      ⟨some 12, some (10, true), .bin .lss (.t 11) (.k (.int .i64 0))⟩,
      ⟨some 13, none, .pick (.t 10) (.t 12) (.k (.bool false))⟩])
    (.keep [0, 1, 13]
     (.cond (.t 13)
      (.ops [⟨some 14, none, .mv (.t 0)⟩,
        ⟨some 15, none, .nilck (.t 14)⟩,
        ⟨some 16, none, .fldA 2 (.t 15)⟩,
        ⟨none, none, .store 1 (.t 16) (.k (.int .i64 2))⟩])
      .skip)))
   (.keep [0, 1]
    (.seq
     (.seq
      (.draw [0, 1, 3, 7, 15, 31, 63, 63, 191, 447, 959, 1983, 63, 4159, 12351, 28735, 65471, 131071, 262143] [[0], [17], [18], [19], [20], [21], [1], [0], [24], [25], [26], [27], [0], [29], [30], [31], [28, 32], [23, 33], [22, 34]] [⟨some 17, none, .mv (.t 0)⟩,
        ⟨some 18, none, .nilck (.t 17)⟩,
        ⟨some 19, none, .fldA 2 (.t 18)⟩,
        ⟨some 20, none, .load false 1 (.t 19)⟩,
        ⟨some 21, none, .bin .eql (.t 20) (.k (.int .i64 0))⟩,
        ⟨some 22, none, .mv (.t 21)⟩,
        ⟨some 23, some (22, true), .mv (.t 1)⟩,
        ⟨some 24, some (22, true), .mv (.t 0)⟩,
        ⟨some 25, some (22, true), .nilck (.t 24)⟩,
        ⟨some 26, some (22, true), .fldA 0 (.t 25)⟩,
        ⟨some 27, some (22, true), .load false 1 (.t 26)⟩,
        ⟨some 28, some (22, true), .lenS (.t 27)⟩,
        ⟨some 29, some (22, true), .mv (.t 0)⟩,
        ⟨some 30, some (22, true), .nilck (.t 29)⟩,
        ⟨some 31, some (22, true), .fldA 1 (.t 30)⟩,
        ⟨some 32, some (22, true), .load false 1 (.t 31)⟩,
        ⟨some 33, some (22, true), .bin .sub (.t 28) (.t 32)⟩,
        ⟨some 34, some (22, true), .bin .gtr (.t 23) (.t 33)⟩,
        ⟨some 35, none, .pick (.t 22) (.t 34) (.k (.bool false))⟩])
      (.keep [0, 1, 35]
       (.cond (.t 35)
        (.ops [⟨some 36, none, .mv (.t 0)⟩,
          ⟨some 37, none, .nilck (.t 36)⟩,
          ⟨some 38, none, .fldA 2 (.t 37)⟩,
          ⟨none, none, .store 1 (.t 38) (.k (.int .i64 4))⟩])
        .skip)))
     (.keep [0, 1]
      (.seq
       (.seq
        (.ops [⟨some 39, none, .mv (.t 0)⟩,
          ⟨some 40, none, .nilck (.t 39)⟩,
          ⟨some 41, none, .fldA 2 (.t 40)⟩,
          ⟨some 42, none, .load false 1 (.t 41)⟩,
          ⟨some 43, none, .bin .neq (.t 42) (.k (.int .i64 0))⟩])
        (.keep [0, 1, 43]
         (.cond (.t 43)
          (.seq
           (.ops [⟨some 4, none, .mv (.k (.nils))⟩])
           .ret)
          .skip)))
       (.keep [0, 1]
        (.seq
         (.ops [⟨some 44, none, .mv (.t 0)⟩,
           ⟨some 45, none, .mv (.t 0)⟩,
           ⟨some 46, none, .nilck (.t 45)⟩,
           ⟨some 47, none, .fldA 1 (.t 46)⟩,
           ⟨some 48, none, .load false 1 (.t 47)⟩,
           ⟨some 49, none, .mv (.t 1)⟩,
           ⟨some 50, none, .bin .add (.t 48) (.t 49)⟩,
           ⟨some 51, none, .nilck (.t 44)⟩,
           ⟨some 52, none, .fldA 1 (.t 51)⟩,
           ⟨none, none, .store 1 (.t 52) (.t 50)⟩])
         (.keep [0, 1]
          (.seq
           (.draw [0, 1, 3, 7, 0, 16, 48, 112, 0, 496, 0, 1024, 3072, 7168, 16383, 32767] [[0], [53], [54], [55], [0], [57], [58], [59], [1], [60, 61], [0], [63], [64], [65], [56, 62, 66], [67]] [⟨some 53, none, .mv (.t 0)⟩,
             ⟨some 54, none, .nilck (.t 53)⟩,
             ⟨some 55, none, .fldA 0 (.t 54)⟩,
             ⟨some 56, none, .load false 1 (.t 55)⟩,
             ⟨some 57, none, .mv (.t 0)⟩,
             ⟨some 58, none, .nilck (.t 57)⟩,
             ⟨some 59, none, .fldA 1 (.t 58)⟩,
             ⟨some 60, none, .load false 1 (.t 59)⟩,
             ⟨some 61, none, .mv (.t 1)⟩,
             ⟨some 62, none, .bin .sub (.t 60) (.t 61)⟩,
             ⟨some 63, none, .mv (.t 0)⟩,
             ⟨some 64, none, .nilck (.t 63)⟩,
             ⟨some 65, none, .fldA 1 (.t 64)⟩,
             ⟨some 66, none, .load false 1 (.t 65)⟩,
             ⟨some 67, none, .slcS 4 1 (.t 56) (some (.t 62)) (some (.t 66)) none⟩,
             ⟨some 4, none, .mv (.t 67)⟩])
           (.keep [4]
            .ret))))))))))) }
structure N66 (R : Env) : Prop where
  o66 : R.Fn 66 c66
/-- (*umbra.umbraref11.Reader).Num -/
def c61 : IFn := { np := 2, rs := [.t 4], body :=
 (.seq
  (.ops [⟨some 4, none, .mv (.k (.int .u64 0))⟩])
  (.seq
   (.seq
    (.ops [⟨some 8, none, .mv (.t 0)⟩,
      ⟨some 9, none, .nilck (.t 8)⟩,
      ⟨some 10, none, .fldA 2 (.t 9)⟩,
      ⟨some 11, none, .load false 1 (.t 10)⟩,
      ⟨some 12, none, .bin .eql (.t 11) (.k (.int .i64 0))⟩,
      ⟨some 13, none, .mv (.t 12)⟩,
      ⟨some 14, some (13, true), .mv (.t 1)⟩,
      ⟨some 15, some (13, true), .bin .lss (.t 14) (.k (.int .i64 1))⟩,
      ⟨some 16, some (13, true), .mv (.t 15)⟩,
      ⟨some 17, some (16, false), .mv (.t 1)⟩,
      ⟨some 18, some (16, false), .bin .gtr (.t 17) (.k (.int .i64 8))⟩,
      ⟨some 19, some (13, true), .pick (.t 16) (.k (.bool true)) (.t 18)⟩,
      ⟨some 20, none, .pick (.t 13) (.t 19) (.k (.bool false))⟩])
    (.keep [0, 1, 20]
     (.cond (.t 20)
      (.ops [⟨some 21, none, .mv (.t 0)⟩,
        ⟨some 22, none, .nilck (.t 21)⟩,
        ⟨some 23, none, .fldA 2 (.t 22)⟩,
        ⟨none, none, .store 1 (.t 23) (.k (.int .i64 2))⟩])
      .skip)))
   (.keep [0, 1]
    (.seq
     (.ops [⟨some 24, none, .mv (.t 0)⟩,
       ⟨some 25, none, .mv (.t 1)⟩,
       ⟨some 26, none, .mm true [.t 25, .k (.int .i64 0)]⟩,
       ⟨some 27, none, .call 66 [.t 24, .t 26]⟩,
       ⟨some 5, none, .mv (.t 27)⟩])
     (.keep [5]
      (.seq
       (.ops [⟨some 6, none, .mv (.k (.int .u64 0))⟩])
       (.seq
        (.seq
         (.ops [⟨some 28, none, .mv (.t 5)⟩,
           ⟨some 29, none, .lenS (.t 28)⟩,
           ⟨some 30, none, .bin .sub (.t 29) (.k (.int .i64 1))⟩,
           ⟨some 7, none, .mv (.t 30)⟩])
         (.keep [5, 6, 7]
          (.block 0
           (.loop
            (.seq
             (.seq
              (.ops [⟨some 31, none, .mv (.t 7)⟩,
                ⟨some 32, none, .bin .geq (.t 31) (.k (.int .i64 0))⟩])
              (.cond (.t 32)
               .skip
               (.exit 0)))
             (.keep [5, 6, 7]
              (.seq
               (.block 1
                (.ops [⟨some 35, none, .mv (.t 6)⟩,
                  ⟨some 36, none, .bin .mul (.t 35) (.k (.int .u64 256))⟩,
                  ⟨some 37, none, .mv (.t 5)⟩,
                  ⟨some 38, none, .mv (.t 7)⟩,
                  ⟨some 39, none, .idxS 1 (.t 37) (.t 38)⟩,
                  ⟨some 40, none, .load false 1 (.t 39)⟩,
                  ⟨some 41, none, .conv .u64 (.t 40)⟩,
                  ⟨some 42, none, .bin .add (.t 36) (.t 41)⟩,
                  ⟨some 6, none, .mv (.t 42)⟩]))
               (.keep [5, 6, 7]
                (.ops [⟨some 33, none, .mv (.t 7)⟩,
                  ⟨some 34, none, .bin .sub (.t 33) (.k (.int .i64 1))⟩,
                  ⟨some 7, none, .mv (.t 34)⟩])))))))))
        (.keep [6]
         (.seq
          (.ops [⟨some 43, none, .mv (.t 6)⟩,
            ⟨some 4, none, .mv (.t 43)⟩])
          .ret))))))))) }
structure N61 (R : Env) : Prop where
  o61 : R.Fn 61 c61
  n66 : N66 R
/-- (*umbra.umbraref11.Reader).End -/
def c69 : IFn := { np := 1, rs := [.t 2], body :=
 (.seq
  (.ops [⟨some 2, none, .mv (.k (.int .i64 0))⟩])
  (.seq
   (.seq
    (.draw [0, 1, 3, 7, 15, 31, 63, 127, 255, 511, 63, 1087, 3135, 7231, 15423, 32767, 65535] [[0], [3], [4], [5], [6], [7], [0], [9], [10], [11], [0], [13], [14], [15], [16], [12, 17], [8, 18]] [⟨some 3, none, .mv (.t 0)⟩,
      ⟨some 4, none, .nilck (.t 3)⟩,
      ⟨some 5, none, .fldA 2 (.t 4)⟩,
      ⟨some 6, none, .load false 1 (.t 5)⟩,
      ⟨some 7, none, .bin .eql (.t 6) (.k (.int .i64 0))⟩,
      ⟨some 8, none, .mv (.t 7)⟩,
      ⟨some 9, some (8, true), .mv (.t 0)⟩,
      ⟨some 10, some (8, true), .nilck (.t 9)⟩,
      ⟨some 11, some (8, true), .fldA 1 (.t 10)⟩,
      ⟨some 12, some (8, true), .load false 1 (.t 11)⟩,
      ⟨some 13, some (8, true), .mv (.t 0)⟩,
      ⟨some 14, some (8, true), .nilck (.t 13)⟩,
      ⟨some 15, some (8, true), .fldA 0 (.t 14)⟩,
      ⟨some 16, some (8, true), .load false 1 (.t 15)⟩,
      ⟨some 17, some (8, true), .lenS (.t 16)⟩,
      ⟨some 18, some (8, true), .bin .lss (.t 12) (.t 17)⟩,
      ⟨some 19, none, .pick (.t 8) (.t 18) (.k (.bool false))⟩])
    (.keep [0, 19]
     (.cond (.t 19)
      (.seq
       (.ops [⟨some 2, none, .mv (.k (.int .i64 5))⟩])
       .ret)
      .skip)))
   (.keep [0]
    (.seq
     (.ops [⟨some 20, none, .mv (.t 0)⟩,
       ⟨some 21, none, .nilck (.t 20)⟩,
       ⟨some 22, none, .fldA 2 (.t 21)⟩,
       ⟨some 23, none, .load false 1 (.t 22)⟩,
       ⟨some 2, none, .mv (.t 23)⟩])
     (.keep [2]
      .ret))))) }
structure N69 (R : Env) : Prop where
  o69 : R.Fn 69 c69
/-- umbra.umbraref11.Signed -/
def c72 : IFn := { np := 3, rs := [.t 6, .t 7], body :=
 (.seq
  (.ops [⟨some 6, none, .mv (.k (.nils))⟩,
    ⟨some 7, none, .mv (.k (.int .i64 0))⟩])
  (.seq
   (.seq
    (.ops [⟨some 12, none, .mv (.t 1)⟩,
      ⟨some 13, none, .bin .lss (.t 12) (.k (.int .i64 1))⟩,
      ⟨some 14, none, .mv (.t 13)⟩,
      ⟨some 15, some (14, false), .mv (.t 1)⟩,
      ⟨some 16, some (14, false), .bin .gtr (.t 15) (.k (.int .i64 8))⟩,
      ⟨some 17, none, .pick (.t 14) (.k (.bool true)) (.t 16)⟩])
    (.keep [0, 1, 2, 17]
     (.cond (.t 17)
      (.seq
       (.ops [⟨some 6, none, .mv (.k (.nils))⟩,
         ⟨some 7, none, .mv (.k (.int .i64 2))⟩])
       .ret)
      .skip)))
   (.keep [0, 1, 2]
    (.seq
     (.ops [⟨some 18, none, .mv (.t 1)⟩,
       ⟨some 19, none, .call 63 [.t 18]⟩,
       ⟨some 20, none, .bin .quo (.t 19) (.k (.int .u64 2))⟩,
       ⟨some 21, none, .conv .i64 (.t 20)⟩,
       ⟨some 8, none, .mv (.t 21)⟩])
     (.keep [0, 1, 2, 8]
      (.seq
       (.ops [⟨some 9, none, .mv (.k (.nils))⟩])
       (.seq
        (.seq
         (.ops [⟨some 10, none, .mv (.k (.int .i64 0))⟩])
         (.keep [0, 1, 2, 8, 9, 10]
          (.block 0
           (.loop
            (.seq
             (.seq
              (.ops [⟨some 22, none, .mv (.t 10)⟩,
                ⟨some 23, none, .mv (.t 2)⟩,
                ⟨some 24, none, .lenS (.t 23)⟩,
                ⟨some 25, none, .bin .lss (.t 22) (.t 24)⟩])
              (.cond (.t 25)
               .skip
               (.exit 0)))
             (.keep [0, 1, 2, 8, 9, 10]
              (.seq
               (.block 1
                (.seq
                 (.seq
                  (.ops [⟨some 28, none, .mv (.t 2)⟩,
                    ⟨some 29, none, .mv (.t 10)⟩,
                    ⟨some 30, none, .idxS 1 (.t 28) (.t 29)⟩,
                    ⟨some 31, none, .load false 1 (.t 30)⟩,
                    ⟨some 32, none, .mv (.t 8)⟩,
                    ⟨some 33, none, .bin .gtr (.t 31) (.t 32)⟩,
                    ⟨some 34, none, .mv (.t 33)⟩,
                    ⟨some 35, some (34, false), .mv (.t 2)⟩,
                    ⟨some 36, some (34, false), .mv (.t 10)⟩,
                    ⟨some 37, some (34, false), .idxS 1 (.t 35) (.t 36)⟩,
                    ⟨some 38, some (34, false), .load false 1 (.t 37)⟩,
                    ⟨some 39, some (34, false), .mv (.t 8)⟩,
                    ⟨some 40, some (34, false), .un .neg (.t 39)⟩,
                    ⟨some 41, some (34, false), .bin .sub (.t 40) (.k (.int .i64 1))⟩,
                    ⟨some 42, some (34, false), .bin .lss (.t 38) (.t 41)⟩,
                    ⟨some 43, none, .pick (.t 34) (.k (.bool true)) (.t 42)⟩])
                  (.keep [0, 1, 2, 8, 9, 10, 43]
                   (.cond (.t 43)
                    (.seq
                     (.ops [⟨some 6, none, .mv (.k (.nils))⟩,
                       ⟨some 7, none, .mv (.k (.int .i64 3))⟩])
                     .ret)
                    .skip)))
                 (.keep [0, 1, 2, 8, 9, 10]
                  (.seq
                   (.ops [⟨some 44, none, .mv (.t 2)⟩,
                     ⟨some 45, none, .mv (.t 10)⟩,
                     ⟨some 46, none, .idxS 1 (.t 44) (.t 45)⟩,
                     ⟨some 47, none, .load false 1 (.t 46)⟩,
                     ⟨some 48, none, .conv .u64 (.t 47)⟩,
                     ⟨some 11, none, .mv (.t 48)⟩])
                   (.keep [0, 1, 2, 8, 9, 10, 11]
                    (.seq
                     (.seq
                      (.ops [⟨some 49, none, .mv (.t 2)⟩,
                        ⟨some 50, none, .mv (.t 10)⟩,
                        ⟨some 51, none, .idxS 1 (.t 49) (.t 50)⟩,
                        ⟨some 52, none, .load false 1 (.t 51)⟩,
                        ⟨some 53, none, .bin .lss (.t 52) (.k (.int .i64 0))⟩])
                      (.keep [0, 1, 2, 8, 9, 10, 11, 53]
                       (.cond (.t 53)
                        (.draw [0, 1, 0, 0, 12, 28, 60, 124, 252, 511, 1023] [[1], [54], [2], [10], [56, 57], [58], [59], [60], [61], [55, 62], [63]] [⟨some 54, none, .mv (.t 1)⟩,
                          ⟨some 55, none, .call 63 [.t 54]⟩,
                          ⟨some 56, none, .mv (.t 2)⟩,
                          ⟨some 57, none, .mv (.t 10)⟩,
                          ⟨some 58, none, .idxS 1 (.t 56) (.t 57)⟩,
                          ⟨some 59, none, .load false 1 (.t 58)⟩,
                          ⟨some 60, none, .bin .add (.t 59) (.k (.int .i64 1))⟩,
                          ⟨some 61, none, .un .neg (.t 60)⟩,
                          ⟨some 62, none, .conv .u64 (.t 61)⟩,
                          ⟨some 63, none, .bin .sub (.t 55) (.t 62)⟩,
                          ⟨some 11, none, .mv (.t 63)⟩])
                        .skip)))
                     (.keep [0, 1, 2, 8, 9, 10, 11]
                      (.ops [⟨some 64, none, .mv (.t 9)⟩,
                        ⟨some 65, none, .mv (.t 11)⟩,
                        ⟨some 66, none, .bslice 6 1 1 [.int .u64 0] [(0, .t 65)]⟩,
                        ⟨some 67, none, .app 6 1 (.t 64) (.t 66)⟩,
                        ⟨some 9, none, .mv (.t 67)⟩]))))))))
               (.keep [0, 1, 2, 8, 9, 10]
                (.ops [⟨some 26, none, .mv (.t 10)⟩,
                  ⟨some 27, none, .bin .add (.t 26) (.k (.int .i64 1))⟩,
                  ⟨some 10, none, .mv (.t 27)⟩])))))))))
        (.keep [0, 1, 9]
         (.seq
          (.ops [⟨some 68, none, .mv (.t 0)⟩,
            ⟨some 69, none, .mv (.t 1)⟩,
            ⟨some 70, none, .mv (.t 9)⟩,
            ⟨some 71, none, .call 55 [.t 68, .t 69, .t 70]⟩,
            ⟨some 72, none, .ext (.t 71) 0⟩,
            ⟨some 73, none, .ext (.t 71) 1⟩,
            ⟨some 6, none, .mv (.t 72)⟩,
            ⟨some 7, none, .mv (.t 73)⟩])
          (.keep [6, 7]
           .ret)))))))))) }
structure N72 (R : Env) : Prop where
  o72 : R.Fn 72 c72
  n55 : N55 R
  n63 : N63 R
/-- (*umbra.umbraref11.Reader).Int -/
def c77 : IFn := { np := 2, rs := [.t 4], body :=
 (.seq
  (.ops [⟨some 4, none, .mv (.k (.int .i64 0))⟩])
  (.seq
   (.ops [⟨some 6, none, .mv (.t 0)⟩,
     ⟨some 7, none, .mv (.t 1)⟩,
     ⟨some 8, none, .call 61 [.t 6, .t 7]⟩,
     ⟨some 5, none, .mv (.t 8)⟩])
   (.seq
    (.seq
     (.ops [⟨some 9, none, .mv (.t 0)⟩,
       ⟨some 10, none, .nilck (.t 9)⟩,
       ⟨some 11, none, .fldA 2 (.t 10)⟩,
       ⟨some 12, none, .load false 1 (.t 11)⟩,
       ⟨some 13, none, .bin .neq (.t 12) (.k (.int .i64 0))⟩])
     (.keep [1, 5, 13]
      (.cond (.t 13)
       (.seq
        (.ops [⟨some 4, none, .mv (.k (.int .i64 0))⟩])
        .ret)
       .skip)))
    (.keep [1, 5]
     (.seq
      (.seq
       (.ops [⟨some 14, none, .mv (.t 5)⟩,
         ⟨some 15, none, .mv (.t 1)⟩,
         ⟨some 16, none, .call 63 [.t 15]⟩,
         ⟨some 17, none, .bin .quo (.t 16) (.k (.int .u64 2))⟩,
         ⟨some 18, none, .bin .gtr (.t 14) (.t 17)⟩])
       (.keep [1, 5, 18]
        (.cond (.t 18)
         (.seq
          (.ops [⟨some 19, none, .mv (.t 1)⟩,
            ⟨some 20, none, .call 63 [.t 19]⟩,
            ⟨some 21, none, .mv (.t 5)⟩,
            ⟨some 22, none, .bin .sub (.t 20) (.t 21)⟩,
            ⟨some 23, none, .conv .i64 (.t 22)⟩,
            ⟨some 24, none, .un .neg (.t 23)⟩,
            ⟨some 25, none, .bin .sub (.t 24) (.k (.int .i64 1))⟩,
            ⟨some 4, none, .mv (.t 25)⟩])
          (.keep [4]
           .ret))
         .skip)))
      (.keep [5]
       (.seq
        (.ops [⟨some 26, none, .mv (.t 5)⟩,
          ⟨some 27, none, .conv .i64 (.t 26)⟩,
          ⟨some 4, none, .mv (.t 27)⟩])
        .ret))))))) }
structure N77 (R : Env) : Prop where
  o77 : R.Fn 77 c77
  n61 : N61 R
  n63 : N63 R
end Go.UM

/- The resolved code of package umbraref13, function by function; numbers are those of the register, the same for all programs. -/

namespace Go.UM
open Go.AM
/-- umbra.umbraref13.Off -/
def c213 : IFn := { np := 2, rs := [.t 4], body :=
 (.seq
  (.ops [⟨some 2, none, .box 26 (.t 0)⟩,
    ⟨some 4, none, .mv (.k (.bool false))⟩])
  (.seq
   (.ops [⟨some 5, none, .fldA 0 (.t 2)⟩,
     ⟨some 6, none, .load false 1 (.t 5)⟩,
     ⟨some 7, none, .mv (.t 1)⟩,
     ⟨some 8, none, .bin .gtr (.t 6) (.t 7)⟩,
     ⟨some 9, none, .mv (.t 8)⟩,
     ⟨some 10, some (9, false), .fldA 0 (.t 2)⟩,
     ⟨some 11, some (9, false), .load false 1 (.t 10)⟩,
     ⟨some 12, some (9, false), .mv (.t 1)⟩,
     ⟨some 13, some (9, false), .un .neg (.t 12)⟩,
     ⟨some 14, some (9, false), .bin .lss (.t 11) (.t 13)⟩,
     ⟨some 15, none, .pick (.t 9) (.k (.bool true)) (.t 14)⟩,
     ⟨some 16, none, .mv (.t 15)⟩,
     ⟨some 17, some (16, false), .fldA 1 (.t 2)⟩,
     ⟨some 18, some (16, false), .load false 1 (.t 17)⟩,
     ⟨some 19, some (16, false), .mv (.t 1)⟩,
     ⟨some 20, some (16, false), .bin .gtr (.t 18) (.t 19)⟩,
     ⟨some 21, none, .pick (.t 16) (.k (.bool true)) (.t 20)⟩,
     ⟨some 22, none, .mv (.t 21)⟩,
     ⟨some 23, some (22, false), .fldA 1 (.t 2)⟩,
     ⟨some 24, some (22, false), .load false 1 (.t 23)⟩,
     ⟨some 25, some (22, false), .mv (.t 1)⟩,
     ⟨some 26, some (22, false), .un .neg (.t 25)⟩,
     ⟨some 27, some (22, false), .bin .lss (.t 24) (.t 26)⟩,
     ⟨some 28, none, .pick (.t 22) (.k (.bool true)) (.t 27)⟩,
     ⟨some 29, none, .mv (.t 28)⟩,
     ⟨some 30, some (29, false), .fldA 2 (.t 2)⟩,
     ⟨some 31, some (29, false), .load false 1 (.t 30)⟩,
     ⟨some 32, some (29, false), .mv (.t 1)⟩,
     ⟨some 33, some (29, false), .bin .gtr (.t 31) (.t 32)⟩,
     ⟨some 34, none, .pick (.t 29) (.k (.bool true)) (.t 33)⟩,
     ⟨some 35, none, .mv (.t 34)⟩,
     ⟨some 36, some (35, false), .fldA 2 (.t 2)⟩,
     ⟨some 37, some (35, false), .load false 1 (.t 36)⟩,
     ⟨some 38, some (35, false), .mv (.t 1)⟩,
     ⟨some 39, some (35, false), .un .neg (.t 38)⟩,
     ⟨some 40, some (35, false), .bin .lss (.t 37) (.t 39)⟩,
     ⟨some 41, none, .pick (.t 35) (.k (.bool true)) (.t 40)⟩,
     ⟨some 4, none, .mv (.t 41)⟩])
   (.keep [4]
    .ret))) }
structure N213 (R : Env) : Prop where
  o213 : R.Fn 213 c213
/-- umbra.umbraref13.Check -/
def c198 : IFn := { np := 1, rs := [.t 2], body :=
 (.seq
  (.ops [⟨some 1, none, .box 25 (.t 0)⟩,
    ⟨some 2, none, .mv (.k (.int .i64 0))⟩])
  (.seq
   (.seq
    (.ops [⟨some 8, none, .fldA 0 (.t 1)⟩,
      ⟨some 9, none, .load false 1 (.t 8)⟩,
      ⟨some 10, none, .lenS (.t 9)⟩,
      ⟨some 11, none, .bin .gtr (.t 10) (.k (.int .i64 64))⟩,
      ⟨some 12, none, .mv (.t 11)⟩,
      ⟨some 13, some (12, false), .fldA 2 (.t 1)⟩,
      ⟨some 14, some (12, false), .load false 1 (.t 13)⟩,
      ⟨some 15, some (12, false), .lenS (.t 14)⟩,
      ⟨some 16, some (12, false), .bin .gtr (.t 15) (.k (.int .i64 64))⟩,
      ⟨some 17, none, .pick (.t 12) (.k (.bool true)) (.t 16)⟩])
    (.keep [1, 17]
     (.cond (.t 17)
      (.seq
       (.ops [⟨some 2, none, .mv (.k (.int .i64 3))⟩])
       .ret)
      .skip)))
   (.keep [1]
    (.seq
     (.seq
      (.ops [⟨some 18, none, .fldA 0 (.t 1)⟩,
        ⟨some 19, none, .load false 1 (.t 18)⟩,
        ⟨some 20, none, .lenS (.t 19)⟩,
        ⟨some 21, none, .bin .lss (.t 20) (.k (.int .i64 1))⟩,
        ⟨some 22, none, .mv (.t 21)⟩,
        ⟨some 23, some (22, false), .fldA 2 (.t 1)⟩,
        ⟨some 24, some (22, false), .load false 1 (.t 23)⟩,
        ⟨some 25, some (22, false), .lenS (.t 24)⟩,
        ⟨some 26, some (22, false), .bin .lss (.t 25) (.k (.int .i64 1))⟩,
        ⟨some 27, none, .pick (.t 22) (.k (.bool true)) (.t 26)⟩,
        ⟨some 28, none, .mv (.t 27)⟩,
        ⟨some 29, some (28, false), .fldA 1 (.t 1)⟩,
        ⟨some 30, some (28, false), .load false 1 (.t 29)⟩,
        ⟨some 31, some (28, false), .lenS (.t 30)⟩,
        ⟨some 32, some (28, false), .fldA 0 (.t 1)⟩,
        ⟨some 33, some (28, false), .load false 1 (.t 32)⟩,
        ⟨some 34, some (28, false), .lenS (.t 33)⟩,
        ⟨some 35, some (28, false), .bin .neq (.t 31) (.t 34)⟩,
        ⟨some 36, none, .pick (.t 28) (.k (.bool true)) (.t 35)⟩])
      (.keep [1, 36]
       (.cond (.t 36)
        (.seq
         (.ops [⟨some 2, none, .mv (.k (.int .i64 5))⟩])
         .ret)
        .skip)))
     (.keep [1]
      (.seq
       (.seq
        (.ops [⟨some 3, none, .mv (.k (.int .i64 0))⟩])
        (.keep [1, 3]
         (.block 0
          (.loop
           (.seq
            (.seq
             (.ops [⟨some 37, none, .mv (.t 3)⟩,
               ⟨some 38, none, .fldA 0 (.t 1)⟩,
               ⟨some 39, none, .load false 1 (.t 38)⟩,
               ⟨some 40, none, .lenS (.t 39)⟩,
               ⟨some 41, none, .bin .lss (.t 37) (.t 40)⟩])
             (.keep [1, 3, 41]
              (.cond (.t 41)
               .skip
               (.exit 0))))
            (.keep [1, 3]
             (.seq
              (.block 1
               (.seq
                (.ops [⟨some 44, none, .fldA 0 (.t 1)⟩,
                  ⟨some 45, none, .load false 1 (.t 44)⟩,
                  ⟨some 46, none, .mv (.t 3)⟩,
                  ⟨some 47, none, .idxS 3 (.t 45) (.t 46)⟩,
                  ⟨some 48, none, .load true 3 (.t 47)⟩,
                  ⟨some 49, none, .call 213 [.t 48, .k (.int .i64 4096)]⟩])
                (.keep [1, 3, 49]
                 (.cond (.t 49)
                  (.seq
                   (.ops [⟨some 2, none, .mv (.k (.int .i64 8))⟩])
                   .ret)
                  .skip))))
              (.keep [1, 3]
               (.ops [⟨some 42, none, .mv (.t 3)⟩,
                 ⟨some 43, none, .bin .add (.t 42) (.k (.int .i64 1))⟩,
                 ⟨some 3, none, .mv (.t 43)⟩])))))))))
       (.keep [1]
        (.seq
         (.seq
          (.ops [⟨some 4, none, .mv (.k (.int .i64 0))⟩])
          (.keep [1, 4]
           (.block 2
            (.loop
             (.seq
              (.seq
               (.ops [⟨some 50, none, .mv (.t 4)⟩,
                 ⟨some 51, none, .fldA 1 (.t 1)⟩,
                 ⟨some 52, none, .load false 1 (.t 51)⟩,
                 ⟨some 53, none, .lenS (.t 52)⟩,
                 ⟨some 54, none, .bin .lss (.t 50) (.t 53)⟩])
               (.keep [1, 4, 54]
                (.cond (.t 54)
                 .skip
                 (.exit 2))))
              (.keep [1, 4]
               (.seq
                (.block 3
                 (.seq
                  (.ops [⟨some 5, none, .mv (.k (.int .i64 0))⟩])
                  (.keep [1, 4, 5]
                   (.block 4
                    (.loop
                     (.seq
                      (.seq
                       (.ops [⟨some 57, none, .mv (.t 5)⟩,
                         ⟨some 58, none, .bin .lss (.t 57) (.k (.int .i64 2))⟩])
                       (.cond (.t 58)
                        .skip
                        (.exit 4)))
                      (.keep [1, 4, 5]
                       (.seq
                        (.block 5
                         (.seq
                          (.ops [⟨some 61, none, .fldA 1 (.t 1)⟩,
                            ⟨some 62, none, .load false 1 (.t 61)⟩,
                            ⟨some 63, none, .mv (.t 4)⟩,
                            ⟨some 64, none, .mv (.t 5)⟩,
                            ⟨some 65, none, .idxS 2 (.t 62) (.t 63)⟩,
                            ⟨some 66, none, .idxA 2 1 (.t 65) (.t 64)⟩,
                            ⟨some 67, none, .load false 1 (.t 66)⟩,
                            ⟨some 68, none, .bin .lss (.t 67) (.k (.int .i64 0))⟩,
                            ⟨some 69, none, .mv (.t 68)⟩,
                            ⟨some 70, some (69, false), .fldA 1 (.t 1)⟩,
                            ⟨some 71, some (69, false), .load false 1 (.t 70)⟩,
                            ⟨some 72, some (69, false), .mv (.t 4)⟩,
                            ⟨some 73, some (69, false), .mv (.t 5)⟩,
                            ⟨some 74, some (69, false), .idxS 2 (.t 71) (.t 72)⟩,
                            ⟨some 75, some (69, false), .idxA 2 1 (.t 74) (.t 73)⟩,
                            ⟨some 76, some (69, false), .load false 1 (.t 75)⟩,
                            ⟨some 77, some (69, false), .bin .gtr (.t 76) (.k (.int .i64 65535))⟩,
                            ⟨some 78, none, .pick (.t 69) (.k (.bool true)) (.t 77)⟩])
                          (.keep [1, 4, 5, 78]
                           (.cond (.t 78)
                            (.seq
                             (.ops [⟨some 2, none, .mv (.k (.int .i64 5))⟩])
                             .ret)
                            .skip))))
                        (.keep [1, 4, 5]
                         (.ops [⟨some 59, none, .mv (.t 5)⟩,
                           ⟨some 60, none, .bin .add (.t 59) (.k (.int .i64 1))⟩,
                           ⟨some 5, none, .mv (.t 60)⟩]))))))))))
                (.keep [1, 4]
                 (.ops [⟨some 55, none, .mv (.t 4)⟩,
                   ⟨some 56, none, .bin .add (.t 55) (.k (.int .i64 1))⟩,
                   ⟨some 4, none, .mv (.t 56)⟩])))))))))
         (.keep [1]
          (.seq
           (.seq
            (.ops [⟨some 6, none, .mv (.k (.int .i64 0))⟩])
            (.keep [1, 6]
             (.block 6
              (.loop
               (.seq
                (.seq
                 (.ops [⟨some 79, none, .mv (.t 6)⟩,
                   ⟨some 80, none, .fldA 2 (.t 1)⟩,
                   ⟨some 81, none, .load false 1 (.t 80)⟩,
                   ⟨some 82, none, .lenS (.t 81)⟩,
                   ⟨some 83, none, .bin .lss (.t 79) (.t 82)⟩])
                 (.keep [1, 6, 83]
                  (.cond (.t 83)
                   .skip
                   (.exit 6))))
                (.keep [1, 6]
                 (.seq
                  (.block 7
                   (.seq
                    (.ops [⟨some 7, none, .mv (.k (.int .i64 0))⟩])
                    (.keep [1, 6, 7]
                     (.block 8
                      (.loop
                       (.seq
                        (.seq
                         (.ops [⟨some 86, none, .mv (.t 7)⟩,
                           ⟨some 87, none, .bin .lss (.t 86) (.k (.int .i64 3))⟩])
                         (.cond (.t 87)
                          .skip
                          (.exit 8)))
                        (.keep [1, 6, 7]
                         (.seq
                          (.block 9
                           (.seq
                            (.draw [0, 1, 0, 0, 7, 31, 63, 127, 255, 511, 1023, 511, 511, 4095, 16383, 32767, 511, 66047, 197119, 524287, 1048575, 2097151, 4194303, 8388607, 4194303, 4194303, 33554431, 134217727, 268435455, 4194303, 541065215, 4194303, 4194303, 4299161599, 12889096191, 3762290687, 68186800127, 136906276863, 274877906943, 549755813887] [[1], [90], [6], [7], [91, 92], [94, 93], [95], [96], [97], [1], [99], [6], [7], [100, 101], [103, 102], [104], [1], [106], [107], [105, 108], [98, 109], [110], [1], [112], [6], [7], [113, 114], [116, 115], [117], [1], [119], [6], [7], [122], [123], [120, 121], [125, 124], [126], [118, 127], [111, 128]] [⟨some 90, none, .fldA 2 (.t 1)⟩,
                              ⟨some 91, none, .load false 1 (.t 90)⟩,
                              ⟨some 92, none, .mv (.t 6)⟩,
                              ⟨some 93, none, .mv (.t 7)⟩,
                              ⟨some 94, none, .idxS 3 (.t 91) (.t 92)⟩,
                              ⟨some 95, none, .idxA 3 1 (.t 94) (.t 93)⟩,
                              ⟨some 96, none, .load false 1 (.t 95)⟩,
                              ⟨some 97, none, .bin .lss (.t 96) (.k (.int .i64 0))⟩,
                              ⟨some 98, none, .mv (.t 97)⟩,
                              ⟨some 99, some (98, false), .fldA 2 (.t 1)⟩,
                              ⟨some 100, some (98, false), .load false 1 (.t 99)⟩,
                              ⟨some 101, some (98, false), .mv (.t 6)⟩,
                              ⟨some 102, some (98, false), .mv (.t 7)⟩,
                              ⟨some 103, some (98, false), .idxS 3 (.t 100) (.t 101)⟩,
                              ⟨some 104, some (98, false), .idxA 3 1 (.t 103) (.t 102)⟩,
                              ⟨some 105, some (98, false), .load false 1 (.t 104)⟩,
                              ⟨some 106, some (98, false), .fldA 0 (.t 1)⟩,
                              ⟨some 107, some (98, false), .load false 1 (.t 106)⟩,
                              ⟨some 108, some (98, false), .lenS (.t 107)⟩,
                              ⟨some 109, some (98, false), .bin .geq (.t 105) (.t 108)⟩,
                              ⟨some 110, none, .pick (.t 98) (.k (.bool true)) (.t 109)⟩,
                              ⟨some 111, none, .mv (.t 110)⟩,
                              ⟨some 112, some (111, false), .fldA 2 (.t 1)⟩,
                              ⟨some 113, some (111, false), .load false 1 (.t 112)⟩,
                              ⟨some 114, some (111, false), .mv (.t 6)⟩,
                              ⟨some 115, some (111, false), .mv (.t 7)⟩,
                              ⟨some 116, some (111, false), .idxS 3 (.t 113) (.t 114)⟩,
                              ⟨some 117, some (111, false), .idxA 3 1 (.t 116) (.t 115)⟩,
                              ⟨some 118, some (111, false), .load false 1 (.t 117)⟩,
                              ⟨some 119, some (111, false), .fldA 2 (.t 1)⟩,
                              ⟨some 120, some (111, false), .load false 1 (.t 119)⟩,
                              ⟨some 121, some (111, false), .mv (.t 6)⟩,
                              ⟨some 122, some (111, false), .mv (.t 7)⟩,
                              ⟨some 123, some (111, false), .bin .add (.t 122) (.k (.int .i64 1))⟩,
                              ⟨some 124, some (111, false), .bin .rem (.t 123) (.k (.int .i64 3))⟩,
                              ⟨some 125, some (111, false), .idxS 3 (.t 120) (.t 121)⟩,
                              ⟨some 126, some (111, false), .idxA 3 1 (.t 125) (.t 124)⟩,
                              ⟨some 127, some (111, false), .load false 1 (.t 126)⟩,
                              ⟨some 128, some (111, false), .bin .eql (.t 118) (.t 127)⟩,
                              ⟨some 129, none, .pick (.t 111) (.k (.bool true)) (.t 128)⟩])
                            (.keep [1, 6, 7, 129]
                             (.cond (.t 129)
                              (.seq
                               (.ops [⟨some 2, none, .mv (.k (.int .i64 5))⟩])
                               .ret)
                              .skip))))
                          (.keep [1, 6, 7]
                           (.ops [⟨some 88, none, .mv (.t 7)⟩,
                             ⟨some 89, none, .bin .add (.t 88) (.k (.int .i64 1))⟩,
                             ⟨some 7, none, .mv (.t 89)⟩]))))))))))
                  (.keep [1, 6]
                   (.ops [⟨some 84, none, .mv (.t 6)⟩,
                     ⟨some 85, none, .bin .add (.t 84) (.k (.int .i64 1))⟩,
                     ⟨some 6, none, .mv (.t 85)⟩])))))))))
           (.keep []
            (.seq
             (.ops [⟨some 2, none, .mv (.k (.int .i64 0))⟩])
             .ret)))))))))))) }
structure N198 (R : Env) : Prop where
  o198 : R.Fn 198 c198
  n213 : N213 R
/-- umbra.umbraref13.Point -/
def c212 : IFn := { np := 2, rs := [.t 4], body :=
 (.seq
  (.ops [⟨some 3, none, .box 26 (.t 1)⟩,
    ⟨some 4, none, .mv (.k (.nils))⟩])
  (.seq
   (.ops [⟨some 8, none, .mv (.t 0)⟩,
     ⟨some 9, none, .fldA 0 (.t 3)⟩,
     ⟨some 10, none, .load false 1 (.t 9)⟩,
     ⟨some 11, none, .fldA 1 (.t 3)⟩,
     ⟨some 12, none, .load false 1 (.t 11)⟩,
     ⟨some 13, none, .fldA 2 (.t 3)⟩,
     ⟨some 14, none, .load false 1 (.t 13)⟩,
     ⟨some 15, none, .bslice 10 1 3 [.int .i64 0] [(0, .t 10), (1, .t 12), (2, .t 14)]⟩,
     ⟨some 16, none, .call 72 [.t 8, .k (.int .i64 2), .t 15]⟩,
     ⟨some 7, none, .mv (.t 16)⟩,
     ⟨some 17, none, .ext (.t 7) 0⟩,
     ⟨some 18, none, .ext (.t 7) 1⟩,
     ⟨some 5, none, .mv (.t 17)⟩,
     ⟨some 6, none, .mv (.t 18)⟩])
   (.keep [5]
    (.seq
     (.ops [⟨some 19, none, .mv (.t 5)⟩,
       ⟨some 4, none, .mv (.t 19)⟩])
     .ret)))) }
structure N212 (R : Env) : Prop where
  o212 : R.Fn 212 c212
  n72 : N72 R
/-- umbra.umbraref13.Encode -/
def c197 : IFn := { np := 1, rs := [.t 2, .t 3], body :=
 (.seq
  (.ops [⟨some 1, none, .box 25 (.t 0)⟩,
    ⟨some 2, none, .mv (.k (.nils))⟩,
    ⟨some 3, none, .mv (.k (.int .i64 0))⟩])
  (.seq
   (.seq
    (.ops [⟨some 11, none, .load true 3 (.t 1)⟩,
      ⟨some 12, none, .call 198 [.t 11]⟩,
      ⟨some 4, none, .mv (.t 12)⟩])
    (.seq
     (.ops [⟨some 13, none, .mv (.t 4)⟩,
       ⟨some 14, none, .bin .neq (.t 13) (.k (.int .i64 0))⟩])
     (.cond (.t 14)
      (.seq
       (.ops [⟨some 15, none, .mv (.t 4)⟩,
         ⟨some 2, none, .mv (.k (.nils))⟩,
         ⟨some 3, none, .mv (.t 15)⟩])
       .ret)
      .skip)))
   (.keep [1]
    (.seq
     (.ops [⟨some 16, none, .fldA 0 (.t 1)⟩,
       ⟨some 17, none, .load false 1 (.t 16)⟩,
       ⟨some 18, none, .lenS (.t 17)⟩,
       ⟨some 19, none, .conv .u8 (.t 18)⟩,
       ⟨some 20, none, .fldA 2 (.t 1)⟩,
       ⟨some 21, none, .load false 1 (.t 20)⟩,
       ⟨some 22, none, .lenS (.t 21)⟩,
       ⟨some 23, none, .conv .u8 (.t 22)⟩,
       ⟨some 24, none, .bslice 4 1 2 [.int .u8 0] [(0, .t 19), (1, .t 23)]⟩,
       ⟨some 5, none, .mv (.t 24)⟩])
     (.keep [1, 5]
      (.seq
       (.seq
        (.ops [⟨some 6, none, .mv (.k (.int .i64 0))⟩])
        (.keep [1, 5, 6]
         (.block 0
          (.loop
           (.seq
            (.seq
             (.ops [⟨some 25, none, .mv (.t 6)⟩,
               ⟨some 26, none, .fldA 0 (.t 1)⟩,
               ⟨some 27, none, .load false 1 (.t 26)⟩,
               ⟨some 28, none, .lenS (.t 27)⟩,
               ⟨some 29, none, .bin .lss (.t 25) (.t 28)⟩])
             (.keep [1, 5, 6, 29]
              (.cond (.t 29)
               .skip
               (.exit 0))))
            (.keep [1, 5, 6]
             (.seq
              (.block 1
               (.ops [⟨some 32, none, .mv (.t 5)⟩,
                 ⟨some 33, none, .fldA 0 (.t 1)⟩,
                 ⟨some 34, none, .load false 1 (.t 33)⟩,
                 ⟨some 35, none, .mv (.t 6)⟩,
                 ⟨some 36, none, .idxS 3 (.t 34) (.t 35)⟩,
                 ⟨some 37, none, .load true 3 (.t 36)⟩,
                 ⟨some 38, none, .call 212 [.t 32, .t 37]⟩,
                 ⟨some 5, none, .mv (.t 38)⟩]))
              (.keep [1, 5, 6]
               (.ops [⟨some 30, none, .mv (.t 6)⟩,
                 ⟨some 31, none, .bin .add (.t 30) (.k (.int .i64 1))⟩,
                 ⟨some 6, none, .mv (.t 31)⟩])))))))))
       (.keep [1, 5]
        (.seq
         (.seq
          (.ops [⟨some 7, none, .mv (.k (.int .i64 0))⟩])
          (.keep [1, 5, 7]
           (.block 2
            (.loop
             (.seq
              (.seq
               (.ops [⟨some 39, none, .mv (.t 7)⟩,
                 ⟨some 40, none, .fldA 1 (.t 1)⟩,
                 ⟨some 41, none, .load false 1 (.t 40)⟩,
                 ⟨some 42, none, .lenS (.t 41)⟩,
                 ⟨some 43, none, .bin .lss (.t 39) (.t 42)⟩])
               (.keep [1, 5, 7, 43]
                (.cond (.t 43)
                 .skip
                 (.exit 2))))
              (.keep [1, 5, 7]
               (.seq
                (.block 3
                 (.seq
                  (.ops [⟨some 8, none, .mv (.k (.int .i64 0))⟩])
                  (.keep [1, 5, 7, 8]
                   (.block 4
                    (.loop
                     (.seq
                      (.seq
                       (.ops [⟨some 46, none, .mv (.t 8)⟩,
                         ⟨some 47, none, .bin .lss (.t 46) (.k (.int .i64 2))⟩])
                       (.cond (.t 47)
                        .skip
                        (.exit 4)))
                      (.keep [1, 5, 7, 8]
                       (.seq
                        (.block 5
                         (.draw [0, 0, 2, 0, 0, 14, 62, 126, 254, 510, 0, 1024, 0, 0, 7168, 31744, 64512, 130048, 261120, 524286, 1048575, 2097151] [[5], [1], [51], [7], [8], [52, 53], [55, 54], [56], [57], [58], [1], [60], [7], [8], [61, 62], [64, 63], [65], [66], [67], [59, 68], [50, 69], [70]] [⟨some 50, none, .mv (.t 5)⟩,
                           ⟨some 51, none, .fldA 1 (.t 1)⟩,
                           ⟨some 52, none, .load false 1 (.t 51)⟩,
                           ⟨some 53, none, .mv (.t 7)⟩,
                           ⟨some 54, none, .mv (.t 8)⟩,
                           ⟨some 55, none, .idxS 2 (.t 52) (.t 53)⟩,
                           ⟨some 56, none, .idxA 2 1 (.t 55) (.t 54)⟩,
                           ⟨some 57, none, .load false 1 (.t 56)⟩,
                           ⟨some 58, none, .bin .rem (.t 57) (.k (.int .i64 256))⟩,
                           ⟨some 59, none, .conv .u8 (.t 58)⟩,
                           ⟨some 60, none, .fldA 1 (.t 1)⟩,
                           ⟨some 61, none, .load false 1 (.t 60)⟩,
                           ⟨some 62, none, .mv (.t 7)⟩,
                           ⟨some 63, none, .mv (.t 8)⟩,
                           ⟨some 64, none, .idxS 2 (.t 61) (.t 62)⟩,
                           ⟨some 65, none, .idxA 2 1 (.t 64) (.t 63)⟩,
                           ⟨some 66, none, .load false 1 (.t 65)⟩,
                           ⟨some 67, none, .bin .quo (.t 66) (.k (.int .i64 256))⟩,
                           ⟨some 68, none, .conv .u8 (.t 67)⟩,
                           ⟨some 69, none, .bslice 4 1 2 [.int .u8 0] [(0, .t 59), (1, .t 68)]⟩,
                           ⟨some 70, none, .app 4 1 (.t 50) (.t 69)⟩,
                           ⟨some 5, none, .mv (.t 70)⟩]))
                        (.keep [1, 5, 7, 8]
                         (.ops [⟨some 48, none, .mv (.t 8)⟩,
                           ⟨some 49, none, .bin .add (.t 48) (.k (.int .i64 1))⟩,
                           ⟨some 8, none, .mv (.t 49)⟩]))))))))))
                (.keep [1, 5, 7]
                 (.ops [⟨some 44, none, .mv (.t 7)⟩,
                   ⟨some 45, none, .bin .add (.t 44) (.k (.int .i64 1))⟩,
                   ⟨some 7, none, .mv (.t 45)⟩])))))))))
         (.keep [1, 5]
          (.seq
           (.seq
            (.ops [⟨some 9, none, .mv (.k (.int .i64 0))⟩])
            (.keep [1, 5, 9]
             (.block 6
              (.loop
               (.seq
                (.seq
                 (.ops [⟨some 71, none, .mv (.t 9)⟩,
                   ⟨some 72, none, .fldA 2 (.t 1)⟩,
                   ⟨some 73, none, .load false 1 (.t 72)⟩,
                   ⟨some 74, none, .lenS (.t 73)⟩,
                   ⟨some 75, none, .bin .lss (.t 71) (.t 74)⟩])
                 (.keep [1, 5, 9, 75]
                  (.cond (.t 75)
                   .skip
                   (.exit 6))))
                (.keep [1, 5, 9]
                 (.seq
                  (.block 7
                   (.seq
                    (.ops [⟨some 10, none, .mv (.k (.int .i64 0))⟩])
                    (.keep [1, 5, 9, 10]
                     (.block 8
                      (.loop
                       (.seq
                        (.seq
                         (.ops [⟨some 78, none, .mv (.t 10)⟩,
                           ⟨some 79, none, .bin .lss (.t 78) (.k (.int .i64 3))⟩])
                         (.cond (.t 79)
                          .skip
                          (.exit 8)))
                        (.keep [1, 5, 9, 10]
                         (.seq
                          (.block 9
                           (.ops [⟨some 82, none, .mv (.t 5)⟩,
                             ⟨some 83, none, .fldA 2 (.t 1)⟩,
                             ⟨some 84, none, .load false 1 (.t 83)⟩,
                             ⟨some 85, none, .mv (.t 9)⟩,
                             ⟨some 86, none, .mv (.t 10)⟩,
                             ⟨some 87, none, .idxS 3 (.t 84) (.t 85)⟩,
                             ⟨some 88, none, .idxA 3 1 (.t 87) (.t 86)⟩,
                             ⟨some 89, none, .load false 1 (.t 88)⟩,
                             ⟨some 90, none, .conv .u8 (.t 89)⟩,
                             ⟨some 91, none, .bslice 4 1 1 [.int .u8 0] [(0, .t 90)]⟩,
                             ⟨some 92, none, .app 4 1 (.t 82) (.t 91)⟩,
                             ⟨some 5, none, .mv (.t 92)⟩]))
                          (.keep [1, 5, 9, 10]
                           (.ops [⟨some 80, none, .mv (.t 10)⟩,
                             ⟨some 81, none, .bin .add (.t 80) (.k (.int .i64 1))⟩,
                             ⟨some 10, none, .mv (.t 81)⟩]))))))))))
                  (.keep [1, 5, 9]
                   (.ops [⟨some 76, none, .mv (.t 9)⟩,
                     ⟨some 77, none, .bin .add (.t 76) (.k (.int .i64 1))⟩,
                     ⟨some 9, none, .mv (.t 77)⟩])))))))))
           (.keep [5]
            (.seq
             (.ops [⟨some 93, none, .mv (.t 5)⟩,
               ⟨some 2, none, .mv (.t 93)⟩,
               ⟨some 3, none, .mv (.k (.int .i64 0))⟩])
             .ret)))))))))))) }
structure N197 (R : Env) : Prop where
  o197 : R.Fn 197 c197
  n198 : N198 R
  n212 : N212 R
/-- umbra.umbraref13.Read -/
def c216 : IFn := { np := 1, rs := [.cell 2 true 3], body :=
 (.seq
  (.ops [⟨some 2, none, .alloc 26 [.int .i64 0, .int .i64 0, .int .i64 0]⟩])
  (.seq
   (.ops [⟨some 6, none, .mv (.t 0)⟩,
     ⟨some 7, none, .call 77 [.t 6, .k (.int .i64 2)]⟩,
     ⟨some 3, none, .mv (.t 7)⟩])
   (.seq
    (.ops [⟨some 8, none, .mv (.t 0)⟩,
      ⟨some 9, none, .call 77 [.t 8, .k (.int .i64 2)]⟩,
      ⟨some 4, none, .mv (.t 9)⟩])
    (.seq
     (.ops [⟨some 10, none, .mv (.t 0)⟩,
       ⟨some 11, none, .call 77 [.t 10, .k (.int .i64 2)]⟩,
       ⟨some 5, none, .mv (.t 11)⟩])
     (.seq
      (.ops [⟨some 12, none, .mv (.t 3)⟩,
        ⟨some 13, none, .mv (.t 4)⟩,
        ⟨some 14, none, .mv (.t 5)⟩,
        ⟨some 15, none, .build [.int .i64 0, .int .i64 0, .int .i64 0] [(0, 1, .t 12), (1, 1, .t 13), (2, 1, .t 14)]⟩,
        ⟨none, none, .store 3 (.t 2) (.t 15)⟩])
      (.keep [2]
       .ret)))))) }
structure N216 (R : Env) : Prop where
  o216 : R.Fn 216 c216
  n77 : N77 R
/-- umbra.umbraref13.Decode -/
def c203 : IFn := { np := 1, rs := [.cell 2 true 3, .t 3], body :=
 (.seq
  (.ops [⟨some 2, none, .alloc 25 [.nils, .nils, .nils]⟩,
    ⟨some 3, none, .mv (.k (.int .i64 0))⟩])
  (.seq
   (.ops [⟨some 18, none, .mv (.t 0)⟩,
     ⟨some 19, none, .build [.nils, .int .i64 0, .int .i64 0] [(0, 1, .t 18)]⟩,
     ⟨some 20, none, .box 8 (.t 19)⟩,
     ⟨some 4, none, .mv (.t 20)⟩])
   (.seq
    (.ops [⟨some 21, none, .mv (.t 4)⟩,
      ⟨some 22, none, .call 61 [.t 21, .k (.int .i64 1)]⟩,
      ⟨some 23, none, .conv .i64 (.t 22)⟩,
      ⟨some 5, none, .mv (.t 23)⟩])
    (.seq
     (.ops [⟨some 24, none, .mv (.t 4)⟩,
       ⟨some 25, none, .call 61 [.t 24, .k (.int .i64 1)]⟩,
       ⟨some 26, none, .conv .i64 (.t 25)⟩,
       ⟨some 6, none, .mv (.t 26)⟩])
     (.seq
      (.ops [⟨some 7, none, .alloc 25 [.nils, .nils, .nils]⟩])
      (.seq
       (.seq
        (.ops [⟨some 8, none, .mv (.k (.int .i64 0))⟩])
        (.keep [2, 4, 5, 6, 7, 8]
         (.block 0
          (.loop
           (.seq
            (.seq
             (.ops [⟨some 27, none, .mv (.t 8)⟩,
               ⟨some 28, none, .mv (.t 5)⟩,
               ⟨some 29, none, .bin .lss (.t 27) (.t 28)⟩])
             (.cond (.t 29)
              .skip
              (.exit 0)))
            (.keep [2, 4, 5, 6, 7, 8]
             (.seq
              (.block 1
               (.draw [0, 1, 0, 4, 12, 31, 63, 127] [[7], [32], [4], [34], [35], [33, 36], [7], [38, 37]] [⟨some 32, none, .fldA 0 (.t 7)⟩,
                 ⟨some 33, none, .load false 1 (.t 32)⟩,
                 ⟨some 34, none, .mv (.t 4)⟩,
                 ⟨some 35, none, .call 216 [.t 34]⟩,
                 ⟨some 36, none, .bslice 26 3 1 [.int .i64 0, .int .i64 0, .int .i64 0] [(0, .t 35)]⟩,
                 ⟨some 37, none, .app 26 3 (.t 33) (.t 36)⟩,
                 ⟨some 38, none, .fldA 0 (.t 7)⟩,
                 ⟨none, none, .store 1 (.t 38) (.t 37)⟩]))
              (.keep [2, 4, 5, 6, 7, 8]
               (.ops [⟨some 30, none, .mv (.t 8)⟩,
                 ⟨some 31, none, .bin .add (.t 30) (.k (.int .i64 1))⟩,
                 ⟨some 8, none, .mv (.t 31)⟩])))))))))
       (.keep [2, 4, 5, 6, 7]
        (.seq
         (.seq
          (.ops [⟨some 9, none, .mv (.k (.int .i64 0))⟩])
          (.keep [2, 4, 5, 6, 7, 9]
           (.block 2
            (.loop
             (.seq
              (.seq
               (.ops [⟨some 39, none, .mv (.t 9)⟩,
                 ⟨some 40, none, .mv (.t 5)⟩,
                 ⟨some 41, none, .bin .lss (.t 39) (.t 40)⟩])
               (.cond (.t 41)
                .skip
                (.exit 2)))
              (.keep [2, 4, 5, 6, 7, 9]
               (.seq
                (.block 3
                 (.seq
                  (.ops [⟨some 44, none, .mv (.t 4)⟩,
                    ⟨some 45, none, .call 61 [.t 44, .k (.int .i64 2)]⟩,
                    ⟨some 46, none, .conv .i64 (.t 45)⟩,
                    ⟨some 10, none, .mv (.t 46)⟩])
                  (.seq
                   (.ops [⟨some 47, none, .mv (.t 4)⟩,
                     ⟨some 48, none, .call 61 [.t 47, .k (.int .i64 2)]⟩,
                     ⟨some 49, none, .conv .i64 (.t 48)⟩,
                     ⟨some 11, none, .mv (.t 49)⟩])
                   (.ops [⟨some 50, none, .fldA 1 (.t 7)⟩,
                     ⟨some 51, none, .load false 1 (.t 50)⟩,
                     ⟨some 52, none, .mv (.t 10)⟩,
                     ⟨some 53, none, .mv (.t 11)⟩,
                     ⟨some 54, none, .build [.int .i64 0, .int .i64 0] [(0, 1, .t 52), (1, 1, .t 53)]⟩,
                     ⟨some 55, none, .bslice 18 2 1 [.int .i64 0, .int .i64 0] [(0, .t 54)]⟩,
                     ⟨some 56, none, .app 18 2 (.t 51) (.t 55)⟩,
                     ⟨some 57, none, .fldA 1 (.t 7)⟩,
                     ⟨none, none, .store 1 (.t 57) (.t 56)⟩]))))
                (.keep [2, 4, 5, 6, 7, 9]
                 (.ops [⟨some 42, none, .mv (.t 9)⟩,
                   ⟨some 43, none, .bin .add (.t 42) (.k (.int .i64 1))⟩,
                   ⟨some 9, none, .mv (.t 43)⟩])))))))))
         (.keep [2, 4, 6, 7]
          (.seq
           (.seq
            (.ops [⟨some 12, none, .mv (.k (.int .i64 0))⟩])
            (.keep [2, 4, 6, 7, 12]
             (.block 4
              (.loop
               (.seq
                (.seq
                 (.ops [⟨some 58, none, .mv (.t 12)⟩,
                   ⟨some 59, none, .mv (.t 6)⟩,
                   ⟨some 60, none, .bin .lss (.t 58) (.t 59)⟩])
                 (.cond (.t 60)
                  .skip
                  (.exit 4)))
                (.keep [2, 4, 6, 7, 12]
                 (.seq
                  (.block 5
                   (.seq
                    (.ops [⟨some 63, none, .mv (.t 4)⟩,
                      ⟨some 64, none, .call 61 [.t 63, .k (.int .i64 1)]⟩,
                      ⟨some 65, none, .conv .i64 (.t 64)⟩,
                      ⟨some 13, none, .mv (.t 65)⟩])
                    (.seq
                     (.ops [⟨some 66, none, .mv (.t 4)⟩,
                       ⟨some 67, none, .call 61 [.t 66, .k (.int .i64 1)]⟩,
                       ⟨some 68, none, .conv .i64 (.t 67)⟩,
                       ⟨some 14, none, .mv (.t 68)⟩])
                     (.seq
                      (.ops [⟨some 69, none, .mv (.t 4)⟩,
                        ⟨some 70, none, .call 61 [.t 69, .k (.int .i64 1)]⟩,
                        ⟨some 71, none, .conv .i64 (.t 70)⟩,
                        ⟨some 15, none, .mv (.t 71)⟩])
                      (.ops [⟨some 72, none, .fldA 2 (.t 7)⟩,
                        ⟨some 73, none, .load false 1 (.t 72)⟩,
                        ⟨some 74, none, .mv (.t 13)⟩,
                        ⟨some 75, none, .mv (.t 14)⟩,
                        ⟨some 76, none, .mv (.t 15)⟩,
                        ⟨some 77, none, .build [.int .i64 0, .int .i64 0, .int .i64 0] [(0, 1, .t 74), (1, 1, .t 75), (2, 1, .t 76)]⟩,
                        ⟨some 78, none, .bslice 13 3 1 [.int .i64 0, .int .i64 0, .int .i64 0] [(0, .t 77)]⟩,
                        ⟨some 79, none, .app 13 3 (.t 73) (.t 78)⟩,
                        ⟨some 80, none, .fldA 2 (.t 7)⟩,
                        ⟨none, none, .store 1 (.t 80) (.t 79)⟩])))))
                  (.keep [2, 4, 6, 7, 12]
                   (.ops [⟨some 61, none, .mv (.t 12)⟩,
                     ⟨some 62, none, .bin .add (.t 61) (.k (.int .i64 1))⟩,
                     ⟨some 12, none, .mv (.t 62)⟩])))))))))
           (.keep [2, 4, 7]
            (.seq
             (.seq
              (.ops [⟨some 81, none, .mv (.t 4)⟩,
                ⟨some 82, none, .call 69 [.t 81]⟩,
                ⟨some 16, none, .mv (.t 82)⟩])
              (.seq
               (.ops [⟨some 83, none, .mv (.t 16)⟩,
                 ⟨some 84, none, .bin .neq (.t 83) (.k (.int .i64 0))⟩])
               (.cond (.t 84)
                (.seq
                 (.ops [⟨some 85, none, .build [.nils, .nils, .nils] []⟩,
                   ⟨some 86, none, .mv (.t 16)⟩,
                   ⟨none, none, .store 3 (.t 2) (.t 85)⟩,
                   ⟨some 3, none, .mv (.t 86)⟩])
                 .ret)
                .skip)))
             (.keep [2, 7]
              (.seq
               (.seq
                (.ops [⟨some 87, none, .load true 3 (.t 7)⟩,
                  ⟨some 88, none, .call 198 [.t 87]⟩,
                  ⟨some 17, none, .mv (.t 88)⟩])
                (.seq
                 (.ops [⟨some 89, none, .mv (.t 17)⟩,
                   ⟨some 90, none, .bin .neq (.t 89) (.k (.int .i64 0))⟩])
                 (.cond (.t 90)
                  (.seq
                   (.ops [⟨some 91, none, .build [.nils, .nils, .nils] []⟩,
                     ⟨some 92, none, .mv (.t 17)⟩,
                     ⟨none, none, .store 3 (.t 2) (.t 91)⟩,
                     ⟨some 3, none, .mv (.t 92)⟩])
                   .ret)
                  .skip)))
               (.keep [2, 7]
                (.seq
                 (.ops [⟨some 93, none, .load true 3 (.t 7)⟩,
                   ⟨none, none, .store 3 (.t 2) (.t 93)⟩,
                   ⟨some 3, none, .mv (.k (.int .i64 0))⟩])
                 .ret)))))))))))))))) }
structure N203 (R : Env) : Prop where
  o203 : R.Fn 203 c203
  n61 : N61 R
  n69 : N69 R
  n198 : N198 R
  n216 : N216 R
/-- umbra.umbraref13.Same -/
def c204 : IFn := { np := 2, rs := [.t 4], body :=
 (.seq
  (.ops [⟨some 2, none, .box 25 (.t 0)⟩,
    ⟨some 3, none, .box 25 (.t 1)⟩,
    ⟨some 4, none, .mv (.k (.bool false))⟩])
  (.seq
   (.seq
    (.ops [⟨some 8, none, .fldA 0 (.t 2)⟩,
      ⟨some 9, none, .load false 1 (.t 8)⟩,
      ⟨some 10, none, .lenS (.t 9)⟩,
      ⟨some 11, none, .fldA 0 (.t 3)⟩,
      ⟨some 12, none, .load false 1 (.t 11)⟩,
      ⟨some 13, none, .lenS (.t 12)⟩,
      ⟨some 14, none, .bin .neq (.t 10) (.t 13)⟩,
      ⟨some 15, none, .mv (.t 14)⟩,
      ⟨some 16, some (15, false), .fldA 1 (.t 2)⟩,
      ⟨some 17, some (15, false), .load false 1 (.t 16)⟩,
      ⟨some 18, some (15, false), .lenS (.t 17)⟩,
      ⟨some 19, some (15, false), .fldA 1 (.t 3)⟩,
      ⟨some 20, some (15, false), .load false 1 (.t 19)⟩,
      ⟨some 21, some (15, false), .lenS (.t 20)⟩,
      ⟨some 22, some (15, false), .bin .neq (.t 18) (.t 21)⟩,
      ⟨some 23, none, .pick (.t 15) (.k (.bool true)) (.t 22)⟩,
      ⟨some 24, none, .mv (.t 23)⟩,
      ⟨some 25, some (24, false), .fldA 2 (.t 2)⟩,
      ⟨some 26, some (24, false), .load false 1 (.t 25)⟩,
      ⟨some 27, some (24, false), .lenS (.t 26)⟩,
      ⟨some 28, some (24, false), .fldA 2 (.t 3)⟩,
      ⟨some 29, some (24, false), .load false 1 (.t 28)⟩,
      ⟨some 30, some (24, false), .lenS (.t 29)⟩,
      ⟨some 31, some (24, false), .bin .neq (.t 27) (.t 30)⟩,
      ⟨some 32, none, .pick (.t 24) (.k (.bool true)) (.t 31)⟩])
    (.keep [2, 3, 32]
     (.cond (.t 32)
      (.seq
       (.ops [⟨some 4, none, .mv (.k (.bool false))⟩])
       .ret)
      .skip)))
   (.keep [2, 3]
    (.seq
     (.seq
      (.ops [⟨some 5, none, .mv (.k (.int .i64 0))⟩])
      (.keep [2, 3, 5]
       (.block 0
        (.loop
         (.seq
          (.seq
           (.ops [⟨some 33, none, .mv (.t 5)⟩,
             ⟨some 34, none, .fldA 0 (.t 2)⟩,
             ⟨some 35, none, .load false 1 (.t 34)⟩,
             ⟨some 36, none, .lenS (.t 35)⟩,
             ⟨some 37, none, .bin .lss (.t 33) (.t 36)⟩])
           (.keep [2, 3, 5, 37]
            (.cond (.t 37)
             .skip
             (.exit 0))))
          (.keep [2, 3, 5]
           (.seq
            (.block 1
             (.seq
              (.draw [0, 1, 0, 7, 15, 0, 32, 0, 224, 480, 1023] [[2], [40], [5], [41, 42], [43], [3], [45], [5], [46, 47], [48], [44, 49]] [⟨some 40, none, .fldA 0 (.t 2)⟩,
                ⟨some 41, none, .load false 1 (.t 40)⟩,
                ⟨some 42, none, .mv (.t 5)⟩,
                ⟨some 43, none, .idxS 3 (.t 41) (.t 42)⟩,
                ⟨some 44, none, .load true 3 (.t 43)⟩,
                ⟨some 45, none, .fldA 0 (.t 3)⟩,
                ⟨some 46, none, .load false 1 (.t 45)⟩,
                ⟨some 47, none, .mv (.t 5)⟩,
                ⟨some 48, none, .idxS 3 (.t 46) (.t 47)⟩,
                ⟨some 49, none, .load true 3 (.t 48)⟩,
                ⟨some 50, none, .eqa true [.i, .i, .i] (.t 44) (.t 49)⟩])
              (.keep [2, 3, 5, 50]
               (.cond (.t 50)
                (.seq
                 (.ops [⟨some 4, none, .mv (.k (.bool false))⟩])
                 .ret)
                .skip))))
            (.keep [2, 3, 5]
             (.ops [⟨some 38, none, .mv (.t 5)⟩,
               ⟨some 39, none, .bin .add (.t 38) (.k (.int .i64 1))⟩,
               ⟨some 5, none, .mv (.t 39)⟩])))))))))
     (.keep [2, 3]
      (.seq
       (.seq
        (.ops [⟨some 6, none, .mv (.k (.int .i64 0))⟩])
        (.keep [2, 3, 6]
         (.block 2
          (.loop
           (.seq
            (.seq
             (.ops [⟨some 51, none, .mv (.t 6)⟩,
               ⟨some 52, none, .fldA 1 (.t 2)⟩,
               ⟨some 53, none, .load false 1 (.t 52)⟩,
               ⟨some 54, none, .lenS (.t 53)⟩,
               ⟨some 55, none, .bin .lss (.t 51) (.t 54)⟩])
             (.keep [2, 3, 6, 55]
              (.cond (.t 55)
               .skip
               (.exit 2))))
            (.keep [2, 3, 6]
             (.seq
              (.block 3
               (.seq
                (.draw [0, 1, 0, 7, 15, 0, 32, 0, 224, 480, 1023] [[2], [58], [6], [59, 60], [61], [3], [63], [6], [64, 65], [66], [62, 67]] [⟨some 58, none, .fldA 1 (.t 2)⟩,
                  ⟨some 59, none, .load false 1 (.t 58)⟩,
                  ⟨some 60, none, .mv (.t 6)⟩,
                  ⟨some 61, none, .idxS 2 (.t 59) (.t 60)⟩,
                  ⟨some 62, none, .load true 2 (.t 61)⟩,
                  ⟨some 63, none, .fldA 1 (.t 3)⟩,
                  ⟨some 64, none, .load false 1 (.t 63)⟩,
                  ⟨some 65, none, .mv (.t 6)⟩,
                  ⟨some 66, none, .idxS 2 (.t 64) (.t 65)⟩,
                  ⟨some 67, none, .load true 2 (.t 66)⟩,
                  ⟨some 68, none, .eqa true [.i, .i] (.t 62) (.t 67)⟩])
                (.keep [2, 3, 6, 68]
                 (.cond (.t 68)
                  (.seq
                   (.ops [⟨some 4, none, .mv (.k (.bool false))⟩])
                   .ret)
                  .skip))))
              (.keep [2, 3, 6]
               (.ops [⟨some 56, none, .mv (.t 6)⟩,
                 ⟨some 57, none, .bin .add (.t 56) (.k (.int .i64 1))⟩,
                 ⟨some 6, none, .mv (.t 57)⟩])))))))))
       (.keep [2, 3]
        (.seq
         (.seq
          (.ops [⟨some 7, none, .mv (.k (.int .i64 0))⟩])
          (.keep [2, 3, 7]
           (.block 4
            (.loop
             (.seq
              (.seq
               (.ops [⟨some 69, none, .mv (.t 7)⟩,
                 ⟨some 70, none, .fldA 2 (.t 2)⟩,
                 ⟨some 71, none, .load false 1 (.t 70)⟩,
                 ⟨some 72, none, .lenS (.t 71)⟩,
                 ⟨some 73, none, .bin .lss (.t 69) (.t 72)⟩])
               (.keep [2, 3, 7, 73]
                (.cond (.t 73)
                 .skip
                 (.exit 4))))
              (.keep [2, 3, 7]
               (.seq
                (.block 5
                 (.seq
                  (.draw [0, 1, 0, 7, 15, 0, 32, 0, 224, 480, 1023] [[2], [76], [7], [77, 78], [79], [3], [81], [7], [82, 83], [84], [80, 85]] [⟨some 76, none, .fldA 2 (.t 2)⟩,
                    ⟨some 77, none, .load false 1 (.t 76)⟩,
                    ⟨some 78, none, .mv (.t 7)⟩,
                    ⟨some 79, none, .idxS 3 (.t 77) (.t 78)⟩,
                    ⟨some 80, none, .load true 3 (.t 79)⟩,
                    ⟨some 81, none, .fldA 2 (.t 3)⟩,
                    ⟨some 82, none, .load false 1 (.t 81)⟩,
                    ⟨some 83, none, .mv (.t 7)⟩,
                    ⟨some 84, none, .idxS 3 (.t 82) (.t 83)⟩,
                    ⟨some 85, none, .load true 3 (.t 84)⟩,
                    ⟨some 86, none, .eqa true [.i, .i, .i] (.t 80) (.t 85)⟩])
                  (.keep [2, 3, 7, 86]
                   (.cond (.t 86)
                    (.seq
                     (.ops [⟨some 4, none, .mv (.k (.bool false))⟩])
                     .ret)
                    .skip))))
                (.keep [2, 3, 7]
                 (.ops [⟨some 74, none, .mv (.t 7)⟩,
                   ⟨some 75, none, .bin .add (.t 74) (.k (.int .i64 1))⟩,
                   ⟨some 7, none, .mv (.t 75)⟩])))))))))
         (.keep []
          (.seq
           (.ops [⟨some 4, none, .mv (.k (.bool true))⟩])
           .ret)))))))))) }
structure N204 (R : Env) : Prop where
  o204 : R.Fn 204 c204
end Go.UM

/- The resolved code of package umbralaw13, function by function; numbers are those of the register, the same for all programs. -/



namespace Go.UM
open Go.AM
/-- umbra.umbralaw13.Few -/
def c191 : IFn := { np := 1, rs := [.cell 2 true 3], body :=
 (.seq
  (.ops [⟨some 1, none, .box 25 (.t 0)⟩,
    ⟨some 2, none, .alloc 25 [.nils, .nils, .nils]⟩])
  (.seq
   (.draw [0, 1, 0, 4, 12, 28, 63, 0, 128, 0, 512, 1536, 3584, 8064, 0, 16384, 0, 65536, 196608, 458752, 1032192, 2097151, 4194303] [[1], [3], [1], [5], [6], [7], [4, 8], [1], [10], [1], [12], [13], [14], [11, 15], [1], [17], [1], [19], [20], [21], [18, 22], [9, 16, 23], [2, 24]] [⟨some 3, none, .fldA 0 (.t 1)⟩,
     ⟨some 4, none, .load false 1 (.t 3)⟩,
     ⟨some 5, none, .fldA 0 (.t 1)⟩,
     ⟨some 6, none, .load false 1 (.t 5)⟩,
     ⟨some 7, none, .lenS (.t 6)⟩,
     ⟨some 8, none, .mm false [.t 7, .k (.int .i64 70)]⟩,
     ⟨some 9, none, .slcS 26 3 (.t 4) none (some (.t 8)) none⟩,
     ⟨some 10, none, .fldA 1 (.t 1)⟩,
     ⟨some 11, none, .load false 1 (.t 10)⟩,
     ⟨some 12, none, .fldA 1 (.t 1)⟩,
     ⟨some 13, none, .load false 1 (.t 12)⟩,
     ⟨some 14, none, .lenS (.t 13)⟩,
     ⟨some 15, none, .mm false [.t 14, .k (.int .i64 70)]⟩,
     ⟨some 16, none, .slcS 18 2 (.t 11) none (some (.t 15)) none⟩,
     ⟨some 17, none, .fldA 2 (.t 1)⟩,
     ⟨some 18, none, .load false 1 (.t 17)⟩,
     ⟨some 19, none, .fldA 2 (.t 1)⟩,
     ⟨some 20, none, .load false 1 (.t 19)⟩,
     ⟨some 21, none, .lenS (.t 20)⟩,
     ⟨some 22, none, .mm false [.t 21, .k (.int .i64 70)]⟩,
     ⟨some 23, none, .slcS 13 3 (.t 18) none (some (.t 22)) none⟩,
     ⟨some 24, none, .build [.nils, .nils, .nils] [(0, 1, .t 9), (1, 1, .t 16), (2, 1, .t 23)]⟩,
     ⟨none, none, .store 3 (.t 2) (.t 24)⟩])
   (.keep [2]
    .ret))) }
structure N191 (R : Env) : Prop where
  o191 : R.Fn 191 c191
/-- umbra.umbralaw13.works -/
def c194 : IFn := { np := 0, rs := [.t 0], body :=
 (.seq
  (.ops [⟨some 0, none, .mv (.k (.bool false))⟩])
  (.seq
   (.ops [⟨some 7, none, .build [.int .i64 0, .int .i64 0, .int .i64 0] []⟩,
     ⟨some 8, none, .build [.int .i64 0, .int .i64 0, .int .i64 0] [(0, 1, .k (.int .i64 5))]⟩,
     ⟨some 9, none, .build [.int .i64 0, .int .i64 0, .int .i64 0] [(1, 1, .k (.int .i64 7))]⟩,
     ⟨some 10, none, .bslice 26 3 3 [.int .i64 0, .int .i64 0, .int .i64 0] [(0, .t 7), (1, .t 8), (2, .t 9)]⟩,
     ⟨some 11, none, .build [.int .i64 0, .int .i64 0] []⟩,
     ⟨some 12, none, .build [.int .i64 0, .int .i64 0] []⟩,
     ⟨some 13, none, .build [.int .i64 0, .int .i64 0] []⟩,
     ⟨some 14, none, .bslice 18 2 3 [.int .i64 0, .int .i64 0] [(0, .t 11), (1, .t 12), (2, .t 13)]⟩,
     ⟨some 15, none, .build [.int .i64 0, .int .i64 0, .int .i64 0] [(0, 1, .k (.int .i64 0)), (1, 1, .k (.int .i64 1)), (2, 1, .k (.int .i64 2))]⟩,
     ⟨some 16, none, .bslice 13 3 1 [.int .i64 0, .int .i64 0, .int .i64 0] [(0, .t 15)]⟩,
     ⟨some 17, none, .build [.nils, .nils, .nils] [(0, 1, .t 10), (1, 1, .t 14), (2, 1, .t 16)]⟩,
     ⟨some 1, none, .alloc 25 [.nils, .nils, .nils]⟩,
     ⟨none, none, .store 3 (.t 1) (.t 17)⟩])
   (.keep [1]
    (.seq
     (.ops [⟨some 19, none, .load true 3 (.t 1)⟩,
       ⟨some 20, none, .call 196 [.t 19]⟩,
       ⟨some 18, none, .mv (.t 20)⟩,
       ⟨some 21, none, .ext (.t 18) 0⟩,
       ⟨some 22, none, .ext (.t 18) 1⟩,
       ⟨some 2, none, .mv (.t 21)⟩,
       ⟨some 3, none, .mv (.t 22)⟩])
     (.keep [1, 2, 3]
      (.seq
       (.ops [⟨some 24, none, .load true 3 (.t 1)⟩,
         ⟨some 25, none, .call 192 [.t 24]⟩,
         ⟨some 23, none, .mv (.t 25)⟩,
         ⟨some 26, none, .ext (.t 23) 0⟩,
         ⟨some 27, none, .ext (.t 23) 1⟩,
         ⟨some 28, none, .ext (.t 23) 2⟩,
         ⟨some 4, none, .alloc 26 [.int .i64 0, .int .i64 0, .int .i64 0]⟩,
         ⟨some 5, none, .alloc 26 [.int .i64 0, .int .i64 0, .int .i64 0]⟩,
         ⟨none, none, .store 3 (.t 4) (.t 26)⟩,
         ⟨none, none, .store 3 (.t 5) (.t 27)⟩,
         ⟨some 6, none, .mv (.t 28)⟩])
       (.keep [2, 3, 5, 6]
        (.seq
         (.ops [⟨some 29, none, .mv (.t 3)⟩,
           ⟨some 30, none, .bin .eql (.t 29) (.k (.int .i64 0))⟩,
           ⟨some 31, none, .mv (.t 30)⟩,
           ⟨some 32, some (31, true), .mv (.t 2)⟩,
           ⟨some 33, some (31, true), .lenS (.t 32)⟩,
           ⟨some 34, some (31, true), .bin .eql (.t 33) (.k (.int .i64 35))⟩,
           ⟨some 35, none, .pick (.t 31) (.t 34) (.k (.bool false))⟩,
           ⟨some 36, none, .mv (.t 35)⟩,
           ⟨some 37, some (36, true), .mv (.t 6)⟩,
           ⟨some 38, some (36, true), .bin .eql (.t 37) (.k (.int .i64 0))⟩,
           ⟨some 39, none, .pick (.t 36) (.t 38) (.k (.bool false))⟩,
           ⟨some 40, none, .mv (.t 39)⟩,
           ⟨some 41, some (40, true), .load true 3 (.t 5)⟩,
           ⟨some 42, some (40, true), .build [.int .i64 0, .int .i64 0, .int .i64 0] [(0, 1, .k (.int .i64 5)), (1, 1, .k (.int .i64 7))]⟩,
           ⟨some 43, some (40, true), .eqa false [.i, .i, .i] (.t 41) (.t 42)⟩,
           ⟨some 44, none, .pick (.t 40) (.t 43) (.k (.bool false))⟩,
           ⟨some 0, none, .mv (.t 44)⟩])
         (.keep [0]
          .ret))))))))) }
structure N194 (R : Env) : Prop where
  o194 : R.Fn 194 c194
  n192 : N192 R
  n196 : N196 R
/-- umbra.umbralaw13.MeshBox -/
def c190 : IFn := { np := 1, rs := [.t 2], body :=
 (.seq
  (.ops [⟨some 1, none, .box 25 (.t 0)⟩,
    ⟨some 2, none, .mv (.k (.bool false))⟩])
  (.seq
   (.ops [⟨some 14, none, .load true 3 (.t 1)⟩,
     ⟨some 15, none, .call 191 [.t 14]⟩,
     ⟨none, none, .store 3 (.t 1) (.t 15)⟩])
   (.seq
    (.ops [⟨some 17, none, .load true 3 (.t 1)⟩,
      ⟨some 18, none, .call 192 [.t 17]⟩,
      ⟨some 16, none, .mv (.t 18)⟩,
      ⟨some 19, none, .ext (.t 16) 0⟩,
      ⟨some 20, none, .ext (.t 16) 1⟩,
      ⟨some 21, none, .ext (.t 16) 2⟩,
      ⟨some 3, none, .alloc 26 [.int .i64 0, .int .i64 0, .int .i64 0]⟩,
      ⟨some 4, none, .alloc 26 [.int .i64 0, .int .i64 0, .int .i64 0]⟩,
      ⟨none, none, .store 3 (.t 3) (.t 19)⟩,
      ⟨none, none, .store 3 (.t 4) (.t 20)⟩,
      ⟨some 5, none, .mv (.t 21)⟩])
    (.keep [1, 3, 4, 5]
     (.seq
      (.seq
       (.ops [⟨some 22, none, .mv (.t 5)⟩,
         ⟨some 23, none, .bin .neq (.t 22) (.k (.int .i64 0))⟩])
       (.cond (.t 23)
        (.seq
         (.ops [⟨some 24, none, .mv (.t 5)⟩,
           ⟨some 25, none, .load true 3 (.t 1)⟩,
           ⟨some 26, none, .call 193 [.t 25]⟩,
           ⟨some 27, none, .bin .eql (.t 24) (.t 26)⟩,
           ⟨some 28, none, .mv (.t 27)⟩,
           ⟨some 29, some (28, true), .load true 3 (.t 3)⟩,
           ⟨some 30, some (28, true), .build [.int .i64 0, .int .i64 0, .int .i64 0] []⟩,
           ⟨some 31, some (28, true), .eqa false [.i, .i, .i] (.t 29) (.t 30)⟩,
           ⟨some 32, none, .pick (.t 28) (.t 31) (.k (.bool false))⟩,
           ⟨some 33, none, .mv (.t 32)⟩,
           ⟨some 34, some (33, true), .load true 3 (.t 4)⟩,
           ⟨some 35, some (33, true), .build [.int .i64 0, .int .i64 0, .int .i64 0] []⟩,
           ⟨some 36, some (33, true), .eqa false [.i, .i, .i] (.t 34) (.t 35)⟩,
           ⟨some 37, none, .pick (.t 33) (.t 36) (.k (.bool false))⟩,
           ⟨some 38, none, .mv (.t 37)⟩,
           ⟨some 39, some (38, true), .call 194 []⟩,
           ⟨some 40, none, .pick (.t 38) (.t 39) (.k (.bool false))⟩,
           ⟨some 2, none, .mv (.t 40)⟩])
         (.keep [2]
          .ret))
        .skip))
      (.keep [1, 3, 4]
       (.seq
        (.ops [⟨some 41, none, .build [.bool false, .bool false, .bool false, .bool false, .bool false, .bool false] []⟩,
          ⟨some 6, none, .alloc 27 [.bool false, .bool false, .bool false, .bool false, .bool false, .bool false]⟩,
          ⟨none, none, .store 6 (.t 6) (.t 41)⟩])
        (.seq
         (.seq
          (.ops [⟨some 42, none, .fldA 2 (.t 1)⟩,
            ⟨some 43, none, .load false 1 (.t 42)⟩,
            ⟨some 44, none, .lenS (.t 43)⟩,
            ⟨some 45, none, .mv (.k (.int .i64 0))⟩])
          (.keep [1, 3, 4, 6, 43, 44, 45]
           (.block 0
            (.loop
             (.seq
              (.ops [⟨some 46, none, .bin .lss (.t 45) (.t 44)⟩])
              (.seq
               (.cond (.t 46)
                .skip
                (.exit 0))
               (.keep [1, 3, 4, 6, 43, 44, 45]
                (.seq
                 (.block 1
                  (.seq
                   (.ops [⟨some 47, none, .idxS 3 (.t 43) (.t 45)⟩,
                     ⟨some 48, none, .load true 3 (.t 47)⟩,
                     ⟨some 8, none, .alloc 13 [.int .i64 0, .int .i64 0, .int .i64 0]⟩,
                     ⟨none, none, .store 3 (.t 8) (.t 48)⟩])
                   (.seq
                    (.ops [⟨some 49, none, .load true 3 (.t 8)⟩,
                      ⟨some 50, none, .mv (.k (.int .i64 0))⟩])
                    (.keep [1, 3, 4, 6, 43, 44, 45, 49, 50]
                     (.block 2
                      (.loop
                       (.seq
                        (.ops [⟨some 51, none, .bin .lss (.t 50) (.k (.int .i64 3))⟩])
                        (.seq
                         (.cond (.t 51)
                          .skip
                          (.exit 2))
                         (.keep [1, 3, 4, 6, 43, 44, 45, 49, 50]
                          (.seq
                           (.block 3
                            (.seq
                             (.ops [⟨some 52, none, .idxV false 3 1 (.t 49) (.t 50)⟩,
                               ⟨some 10, none, .mv (.t 52)⟩])
                             (.seq
                              (.ops [⟨some 53, none, .fldA 0 (.t 1)⟩,
                                ⟨some 54, none, .load false 1 (.t 53)⟩,
                                ⟨some 55, none, .mv (.t 10)⟩,
                                ⟨some 56, none, .idxS 3 (.t 54) (.t 55)⟩,
                                ⟨some 57, none, .load true 3 (.t 56)⟩,
                                ⟨some 11, none, .alloc 26 [.int .i64 0, .int .i64 0, .int .i64 0]⟩,
                                ⟨none, none, .store 3 (.t 11) (.t 57)⟩])
                              (.keep [1, 3, 4, 6, 11, 43, 44, 45, 49, 50]
                               (.seq
                                (.seq
                                 (.ops [⟨some 58, none, .fldA 0 (.t 11)⟩,
                                   ⟨some 59, none, .load false 1 (.t 58)⟩,
                                   ⟨some 60, none, .fldA 0 (.t 3)⟩,
                                   ⟨some 61, none, .load false 1 (.t 60)⟩,
                                   ⟨some 62, none, .bin .lss (.t 59) (.t 61)⟩,
                                   ⟨some 63, none, .mv (.t 62)⟩,
                                   ⟨some 64, some (63, false), .fldA 1 (.t 11)⟩,
                                   ⟨some 65, some (63, false), .load false 1 (.t 64)⟩,
                                   ⟨some 66, some (63, false), .fldA 1 (.t 3)⟩,
                                   ⟨some 67, some (63, false), .load false 1 (.t 66)⟩,
                                   ⟨some 68, some (63, false), .bin .lss (.t 65) (.t 67)⟩,
                                   ⟨some 69, none, .pick (.t 63) (.k (.bool true)) (.t 68)⟩,
                                   ⟨some 70, none, .mv (.t 69)⟩,
                                   ⟨some 71, some (70, false), .fldA 2 (.t 11)⟩,
                                   ⟨some 72, some (70, false), .load false 1 (.t 71)⟩,
                                   ⟨some 73, some (70, false), .fldA 2 (.t 3)⟩,
                                   ⟨some 74, some (70, false), .load false 1 (.t 73)⟩,
                                   ⟨some 75, some (70, false), .bin .lss (.t 72) (.t 74)⟩,
                                   ⟨some 76, none, .pick (.t 70) (.k (.bool true)) (.t 75)⟩,
                                   ⟨some 77, none, .mv (.t 76)⟩,
                                   ⟨some 78, some (77, false), .fldA 0 (.t 11)⟩,
                                   ⟨some 79, some (77, false), .load false 1 (.t 78)⟩,
                                   ⟨some 80, some (77, false), .fldA 0 (.t 4)⟩,
                                   ⟨some 81, some (77, false), .load false 1 (.t 80)⟩,
                                   ⟨some 82, some (77, false), .bin .gtr (.t 79) (.t 81)⟩,
                                   ⟨some 83, none, .pick (.t 77) (.k (.bool true)) (.t 82)⟩,
                                   ⟨some 84, none, .mv (.t 83)⟩,
                                   ⟨some 85, some (84, false), .fldA 1 (.t 11)⟩,
                                   ⟨some 86, some (84, false), .load false 1 (.t 85)⟩,
                                   ⟨some 87, some (84, false), .fldA 1 (.t 4)⟩,
                                   ⟨some 88, some (84, false), .load false 1 (.t 87)⟩,
                                   ⟨some 89, some (84, false), .bin .gtr (.t 86) (.t 88)⟩,
                                   ⟨some 90, none, .pick (.t 84) (.k (.bool true)) (.t 89)⟩,
                                   ⟨some 91, none, .mv (.t 90)⟩,
                                   ⟨some 92, some (91, false), .fldA 2 (.t 11)⟩,
                                   ⟨some 93, some (91, false), .load false 1 (.t 92)⟩,
                                   ⟨some 94, some (91, false), .fldA 2 (.t 4)⟩,
                                   ⟨some 95, some (91, false), .load false 1 (.t 94)⟩,
                                   ⟨some 96, some (91, false), .bin .gtr (.t 93) (.t 95)⟩,
                                   ⟨some 97, none, .pick (.t 91) (.k (.bool true)) (.t 96)⟩])
                                 (.keep [1, 3, 4, 6, 11, 43, 44, 45, 49, 50, 97]
                                  (.cond (.t 97)
                                   (.seq
                                    (.ops [⟨some 2, none, .mv (.k (.bool false))⟩])
                                    .ret)
                                   .skip)))
                                (.keep [1, 3, 4, 6, 11, 43, 44, 45, 49, 50]
                                 (.seq
                                  (.ops [⟨some 98, none, .fldA 0 (.t 11)⟩,
                                    ⟨some 99, none, .load false 1 (.t 98)⟩,
                                    ⟨some 100, none, .fldA 0 (.t 3)⟩,
                                    ⟨some 101, none, .load false 1 (.t 100)⟩,
                                    ⟨some 102, none, .bin .eql (.t 99) (.t 101)⟩,
                                    ⟨some 103, none, .fldA 1 (.t 11)⟩,
                                    ⟨some 104, none, .load false 1 (.t 103)⟩,
                                    ⟨some 105, none, .fldA 1 (.t 3)⟩,
                                    ⟨some 106, none, .load false 1 (.t 105)⟩,
                                    ⟨some 107, none, .bin .eql (.t 104) (.t 106)⟩,
                                    ⟨some 108, none, .fldA 2 (.t 11)⟩,
                                    ⟨some 109, none, .load false 1 (.t 108)⟩,
                                    ⟨some 110, none, .fldA 2 (.t 3)⟩,
                                    ⟨some 111, none, .load false 1 (.t 110)⟩,
                                    ⟨some 112, none, .bin .eql (.t 109) (.t 111)⟩,
                                    ⟨some 113, none, .fldA 0 (.t 11)⟩,
                                    ⟨some 114, none, .load false 1 (.t 113)⟩,
                                    ⟨some 115, none, .fldA 0 (.t 4)⟩,
                                    ⟨some 116, none, .load false 1 (.t 115)⟩,
                                    ⟨some 117, none, .bin .eql (.t 114) (.t 116)⟩,
                                    ⟨some 118, none, .fldA 1 (.t 11)⟩,
                                    ⟨some 119, none, .load false 1 (.t 118)⟩,
                                    ⟨some 120, none, .fldA 1 (.t 4)⟩,
                                    ⟨some 121, none, .load false 1 (.t 120)⟩,
                                    ⟨some 122, none, .bin .eql (.t 119) (.t 121)⟩,
                                    ⟨some 123, none, .fldA 2 (.t 11)⟩,
                                    ⟨some 124, none, .load false 1 (.t 123)⟩,
                                    ⟨some 125, none, .fldA 2 (.t 4)⟩,
                                    ⟨some 126, none, .load false 1 (.t 125)⟩,
                                    ⟨some 127, none, .bin .eql (.t 124) (.t 126)⟩,
                                    ⟨some 128, none, .build [.bool false, .bool false, .bool false, .bool false, .bool false, .bool false] [(0, 1, .t 102), (1, 1, .t 107), (2, 1, .t 112), (3, 1, .t 117), (4, 1, .t 122), (5, 1, .t 127)]⟩,
                                    ⟨some 129, none, .mv (.k (.int .i64 0))⟩])
                                  (.keep [1, 3, 4, 6, 43, 44, 45, 49, 50, 128, 129]
                                   (.block 4
                                    (.loop
                                     (.seq
                                      (.ops [⟨some 130, none, .bin .lss (.t 129) (.k (.int .i64 6))⟩])
                                      (.seq
                                       (.cond (.t 130)
                                        .skip
                                        (.exit 4))
                                       (.keep [1, 3, 4, 6, 43, 44, 45, 49, 50, 128, 129]
                                        (.seq
                                         (.block 5
                                          (.seq
                                           (.ops [⟨some 131, none, .mv (.t 129)⟩,
                                             ⟨some 132, none, .idxV false 6 1 (.t 128) (.t 129)⟩,
                                             ⟨some 12, none, .mv (.t 131)⟩,
                                             ⟨some 13, none, .mv (.t 132)⟩])
                                           (.ops [⟨some 133, none, .mv (.t 12)⟩,
                                             ⟨some 134, none, .mv (.t 12)⟩,
                                             ⟨some 135, none, .idxA 6 1 (.t 6) (.t 134)⟩,
                                             ⟨some 136, none, .load false 1 (.t 135)⟩,
                                             ⟨some 137, none, .mv (.t 136)⟩,
                                             ⟨some 138, some (137, false), .mv (.t 13)⟩,
                                             ⟨some 139, none, .pick (.t 137) (.k (.bool true)) (.t 138)⟩,
                                             ⟨some 140, none, .idxA 6 1 (.t 6) (.t 133)⟩,
                                             ⟨none, none, .store 1 (.t 140) (.t 139)⟩])))
                                         (.keep [1, 3, 4, 6, 43, 44, 45, 49, 50, 128, 129]
                                          (.ops [⟨some 141, none, .bin .add (.t 129) (.k (.int .i64 1))⟩,
                                            ⟨some 129, none, .mv (.t 141)⟩]))))))))))))))))
                           (.keep [1, 3, 4, 6, 43, 44, 45, 49, 50]
                            (.ops [⟨some 142, none, .bin .add (.t 50) (.k (.int .i64 1))⟩,
                              ⟨some 50, none, .mv (.t 142)⟩]))))))))))))
                 (.keep [1, 3, 4, 6, 43, 44, 45]
                  (.ops [⟨some 143, none, .bin .add (.t 45) (.k (.int .i64 1))⟩,
                    ⟨some 45, none, .mv (.t 143)⟩]))))))))))
         (.keep [6]
          (.seq
           (.ops [⟨some 144, none, .load true 6 (.t 6)⟩,
             ⟨some 145, none, .build [.bool false, .bool false, .bool false, .bool false, .bool false, .bool false] [(0, 1, .k (.bool true)), (1, 1, .k (.bool true)), (2, 1, .k (.bool true)), (3, 1, .k (.bool true)), (4, 1, .k (.bool true)), (5, 1, .k (.bool true))]⟩,
             ⟨some 146, none, .eqa false [.b, .b, .b, .b, .b, .b] (.t 144) (.t 145)⟩,
             ⟨some 147, none, .mv (.t 146)⟩,
             ⟨some 148, some (147, true), .call 194 []⟩,
             ⟨some 149, none, .pick (.t 147) (.t 148) (.k (.bool false))⟩,
             ⟨some 2, none, .mv (.t 149)⟩])
           (.keep [2]
            .ret))))))))))) }
structure N190 (R : Env) : Prop where
  o190 : R.Fn 190 c190
  n191 : N191 R
  n192 : N192 R
  n193 : N193 R
  n194 : N194 R
/-- umbra.umbralaw13.MeshEncodes -/
def c195 : IFn := { np := 1, rs := [.t 2], body :=
 (.seq
  (.ops [⟨some 1, none, .box 25 (.t 0)⟩,
    ⟨some 2, none, .mv (.k (.bool false))⟩])
  (.seq
   (.ops [⟨some 7, none, .load true 3 (.t 1)⟩,
     ⟨some 8, none, .call 191 [.t 7]⟩,
     ⟨none, none, .store 3 (.t 1) (.t 8)⟩])
   (.seq
    (.ops [⟨some 10, none, .load true 3 (.t 1)⟩,
      ⟨some 11, none, .call 196 [.t 10]⟩,
      ⟨some 9, none, .mv (.t 11)⟩,
      ⟨some 12, none, .ext (.t 9) 0⟩,
      ⟨some 13, none, .ext (.t 9) 1⟩,
      ⟨some 3, none, .mv (.t 12)⟩,
      ⟨some 4, none, .mv (.t 13)⟩])
    (.keep [1, 3, 4]
     (.seq
      (.ops [⟨some 15, none, .load true 3 (.t 1)⟩,
        ⟨some 16, none, .call 197 [.t 15]⟩,
        ⟨some 14, none, .mv (.t 16)⟩,
        ⟨some 17, none, .ext (.t 14) 0⟩,
        ⟨some 18, none, .ext (.t 14) 1⟩,
        ⟨some 5, none, .mv (.t 17)⟩,
        ⟨some 6, none, .mv (.t 18)⟩])
      (.keep [1, 3, 4, 5, 6]
       (.seq
        (.draw [0, 1, 0, 7, 15, 31, 63, 63, 255, 511, 1023, 2047, 2047, 8191, 16383, 32767, 65535, 131071, 262143] [[1], [19], [1], [21], [20, 22], [23], [3], [5], [25, 26], [24, 27], [28], [4], [6], [30, 31], [29, 32], [33], [], [34, 35], [36]] [⟨some 19, none, .load true 3 (.t 1)⟩,
          ⟨some 20, none, .call 193 [.t 19]⟩,
          ⟨some 21, none, .load true 3 (.t 1)⟩,
          ⟨some 22, none, .call 198 [.t 21]⟩,
          ⟨some 23, none, .bin .eql (.t 20) (.t 22)⟩,
          ⟨some 24, none, .mv (.t 23)⟩,
          ⟨some 25, some (24, true), .mv (.t 3)⟩,
          ⟨some 26, some (24, true), .mv (.t 5)⟩,
          ⟨some 27, some (24, true), .call 47 [.t 25, .t 26]⟩,
          ⟨some 28, none, .pick (.t 24) (.t 27) (.k (.bool false))⟩,
          ⟨some 29, none, .mv (.t 28)⟩,
          ⟨some 30, some (29, true), .mv (.t 4)⟩,
          ⟨some 31, some (29, true), .mv (.t 6)⟩,
          ⟨some 32, some (29, true), .bin .eql (.t 30) (.t 31)⟩,
          ⟨some 33, none, .pick (.t 29) (.t 32) (.k (.bool false))⟩,
          ⟨some 34, none, .mv (.t 33)⟩,
          ⟨some 35, some (34, true), .call 194 []⟩,
          ⟨some 36, none, .pick (.t 34) (.t 35) (.k (.bool false))⟩,
          ⟨some 2, none, .mv (.t 36)⟩])
        (.keep [2]
         .ret)))))))) }
structure N195 (R : Env) : Prop where
  o195 : R.Fn 195 c195
  n47 : N47 R
  n191 : N191 R
  n193 : N193 R
  n194 : N194 R
  n196 : N196 R
  n197 : N197 R
  n198 : N198 R
/-- umbra.umbralaw13.MeshCorners -/
def c199 : IFn := { np := 2, rs := [.t 4], body :=
 (.seq
  (.ops [⟨some 2, none, .box 25 (.t 0)⟩,
    ⟨some 4, none, .mv (.k (.bool false))⟩])
  (.seq
   (.ops [⟨some 11, none, .load true 3 (.t 2)⟩,
     ⟨some 12, none, .call 191 [.t 11]⟩,
     ⟨none, none, .store 3 (.t 2) (.t 12)⟩])
   (.seq
    (.ops [⟨some 14, none, .load true 3 (.t 2)⟩,
      ⟨some 15, none, .mv (.t 1)⟩,
      ⟨some 16, none, .call 200 [.t 14, .t 15]⟩,
      ⟨some 13, none, .mv (.t 16)⟩,
      ⟨some 17, none, .ext (.t 13) 0⟩,
      ⟨some 18, none, .ext (.t 13) 1⟩,
      ⟨some 19, none, .ext (.t 13) 2⟩,
      ⟨some 5, none, .alloc 28 [.int .i64 0, .int .i64 0, .int .i64 0, .int .i64 0, .int .i64 0, .int .i64 0, .int .i64 0, .int .i64 0, .int .i64 0]⟩,
      ⟨some 6, none, .alloc 29 [.int .i64 0, .int .i64 0, .int .i64 0, .int .i64 0, .int .i64 0, .int .i64 0]⟩,
      ⟨none, none, .store 9 (.t 5) (.t 17)⟩,
      ⟨none, none, .store 6 (.t 6) (.t 18)⟩,
      ⟨some 7, none, .mv (.t 19)⟩])
    (.keep [1, 2, 5, 6, 7]
     (.seq
      (.seq
       (.ops [⟨some 20, none, .load true 3 (.t 2)⟩,
         ⟨some 21, none, .call 198 [.t 20]⟩,
         ⟨some 8, none, .mv (.t 21)⟩])
       (.seq
        (.ops [⟨some 22, none, .mv (.t 8)⟩,
          ⟨some 23, none, .bin .neq (.t 22) (.k (.int .i64 0))⟩])
        (.cond (.t 23)
         (.seq
          (.ops [⟨some 24, none, .mv (.t 7)⟩,
            ⟨some 25, none, .mv (.t 8)⟩,
            ⟨some 26, none, .bin .eql (.t 24) (.t 25)⟩,
            ⟨some 27, none, .mv (.t 26)⟩,
            ⟨some 28, some (27, true), .call 194 []⟩,
            ⟨some 29, none, .pick (.t 27) (.t 28) (.k (.bool false))⟩,
            ⟨some 4, none, .mv (.t 29)⟩])
          (.keep [4]
           .ret))
         .skip)))
      (.keep [1, 2, 5, 6, 7]
       (.seq
        (.seq
         (.ops [⟨some 30, none, .mv (.t 1)⟩,
           ⟨some 31, none, .bin .lss (.t 30) (.k (.int .i64 0))⟩,
           ⟨some 32, none, .mv (.t 31)⟩,
           ⟨some 33, some (32, false), .mv (.t 1)⟩,
           ⟨some 34, some (32, false), .fldA 2 (.t 2)⟩,
           ⟨some 35, some (32, false), .load false 1 (.t 34)⟩,
           ⟨some 36, some (32, false), .lenS (.t 35)⟩,
           ⟨some 37, some (32, false), .bin .geq (.t 33) (.t 36)⟩,
           ⟨some 38, none, .pick (.t 32) (.k (.bool true)) (.t 37)⟩])
         (.keep [1, 2, 5, 6, 7, 38]
          (.cond (.t 38)
           (.seq
            (.ops [⟨some 39, none, .mv (.t 7)⟩,
              ⟨some 40, none, .bin .eql (.t 39) (.k (.int .i64 2))⟩,
              ⟨some 41, none, .mv (.t 40)⟩,
              ⟨some 42, some (41, true), .load true 9 (.t 5)⟩,
              ⟨some 43, some (41, true), .build [.int .i64 0, .int .i64 0, .int .i64 0, .int .i64 0, .int .i64 0, .int .i64 0, .int .i64 0, .int .i64 0, .int .i64 0] []⟩,
              ⟨some 44, some (41, true), .eqa false [.i, .i, .i, .i, .i, .i, .i, .i, .i] (.t 42) (.t 43)⟩,
              ⟨some 45, none, .pick (.t 41) (.t 44) (.k (.bool false))⟩,
              ⟨some 46, none, .mv (.t 45)⟩,
              ⟨some 47, some (46, true), .call 194 []⟩,
              ⟨some 48, none, .pick (.t 46) (.t 47) (.k (.bool false))⟩,
              ⟨some 4, none, .mv (.t 48)⟩])
            (.keep [4]
             .ret))
           .skip)))
        (.keep [1, 2, 5, 6, 7]
         (.seq
          (.seq
           (.ops [⟨some 49, none, .fldA 2 (.t 2)⟩,
             ⟨some 50, none, .load false 1 (.t 49)⟩,
             ⟨some 51, none, .mv (.t 1)⟩,
             ⟨some 52, none, .idxS 3 (.t 50) (.t 51)⟩,
             ⟨some 53, none, .load true 3 (.t 52)⟩,
             ⟨some 54, none, .mv (.k (.int .i64 0))⟩])
           (.keep [2, 5, 6, 7, 53, 54]
            (.block 0
             (.loop
              (.seq
               (.ops [⟨some 55, none, .bin .lss (.t 54) (.k (.int .i64 3))⟩])
               (.seq
                (.cond (.t 55)
                 .skip
                 (.exit 0))
                (.keep [2, 5, 6, 7, 53, 54]
                 (.seq
                  (.block 1
                   (.seq
                    (.ops [⟨some 56, none, .mv (.t 54)⟩,
                      ⟨some 57, none, .idxV false 3 1 (.t 53) (.t 54)⟩,
                      ⟨some 9, none, .mv (.t 56)⟩,
                      ⟨some 10, none, .mv (.t 57)⟩])
                    (.seq
                     (.draw [0, 1, 3, 0, 8, 0, 56, 120, 255, 511, 1023, 2047, 4095, 1023, 9215, 1023, 58367, 123903, 262143, 524287] [[9], [5, 58], [59], [2], [61], [10], [62, 63], [64], [60, 65], [66], [9], [6, 68], [69], [2], [71], [10], [72, 73], [74], [70, 75], [67, 76]] [⟨some 58, none, .mv (.t 9)⟩,
                       ⟨some 59, none, .idxA 3 3 (.t 5) (.t 58)⟩,
                       ⟨some 60, none, .load true 3 (.t 59)⟩,
                       ⟨some 61, none, .fldA 0 (.t 2)⟩,
                       ⟨some 62, none, .load false 1 (.t 61)⟩,
                       ⟨some 63, none, .mv (.t 10)⟩,
                       ⟨some 64, none, .idxS 3 (.t 62) (.t 63)⟩,
                       ⟨some 65, none, .load true 3 (.t 64)⟩,
                       ⟨some 66, none, .eqa true [.i, .i, .i] (.t 60) (.t 65)⟩,
                       ⟨some 67, none, .mv (.t 66)⟩,
                       ⟨some 68, some (67, false), .mv (.t 9)⟩,
                       ⟨some 69, some (67, false), .idxA 3 2 (.t 6) (.t 68)⟩,
                       ⟨some 70, some (67, false), .load true 2 (.t 69)⟩,
                       ⟨some 71, some (67, false), .fldA 1 (.t 2)⟩,
                       ⟨some 72, some (67, false), .load false 1 (.t 71)⟩,
                       ⟨some 73, some (67, false), .mv (.t 10)⟩,
                       ⟨some 74, some (67, false), .idxS 2 (.t 72) (.t 73)⟩,
                       ⟨some 75, some (67, false), .load true 2 (.t 74)⟩,
                       ⟨some 76, some (67, false), .eqa true [.i, .i] (.t 70) (.t 75)⟩,
                       ⟨some 77, none, .pick (.t 67) (.k (.bool true)) (.t 76)⟩])
                     (.keep [2, 5, 6, 7, 53, 54, 77]
                      (.cond (.t 77)
                       (.seq
                        (.ops [⟨some 4, none, .mv (.k (.bool false))⟩])
                        .ret)
                       .skip)))))
                  (.keep [2, 5, 6, 7, 53, 54]
                   (.ops [⟨some 78, none, .bin .add (.t 54) (.k (.int .i64 1))⟩,
                     ⟨some 54, none, .mv (.t 78)⟩]))))))))))
          (.keep [7]
           (.seq
            (.ops [⟨some 79, none, .mv (.t 7)⟩,
              ⟨some 80, none, .bin .eql (.t 79) (.k (.int .i64 0))⟩,
              ⟨some 81, none, .mv (.t 80)⟩,
              ⟨some 82, some (81, true), .call 194 []⟩,
              ⟨some 83, none, .pick (.t 81) (.t 82) (.k (.bool false))⟩,
              ⟨some 4, none, .mv (.t 83)⟩])
            (.keep [4]
             .ret)))))))))))) }
structure N199 (R : Env) : Prop where
  o199 : R.Fn 199 c199
  n191 : N191 R
  n194 : N194 R
  n198 : N198 R
  n200 : N200 R
/-- umbra.umbralaw13.MeshDecodes -/
def c201 : IFn := { np := 1, rs := [.t 2], body :=
 (.seq
  (.ops [⟨some 2, none, .mv (.k (.bool false))⟩])
  (.seq
   (.ops [⟨some 7, none, .mv (.t 0)⟩,
     ⟨some 8, none, .mv (.t 0)⟩,
     ⟨some 9, none, .lenS (.t 8)⟩,
     ⟨some 10, none, .mm false [.t 9, .k (.int .i64 900)]⟩,
     ⟨some 11, none, .slcS 4 1 (.t 7) none (some (.t 10)) none⟩,
     ⟨some 0, none, .mv (.t 11)⟩])
   (.keep [0]
    (.seq
     (.ops [⟨some 13, none, .mv (.t 0)⟩,
       ⟨some 14, none, .call 202 [.t 13]⟩,
       ⟨some 12, none, .mv (.t 14)⟩,
       ⟨some 15, none, .ext (.t 12) 0⟩,
       ⟨some 16, none, .ext (.t 12) 1⟩,
       ⟨some 3, none, .alloc 25 [.nils, .nils, .nils]⟩,
       ⟨none, none, .store 3 (.t 3) (.t 15)⟩,
       ⟨some 4, none, .mv (.t 16)⟩])
     (.keep [0, 3, 4]
      (.seq
       (.ops [⟨some 18, none, .mv (.t 0)⟩,
         ⟨some 19, none, .call 203 [.t 18]⟩,
         ⟨some 17, none, .mv (.t 19)⟩,
         ⟨some 20, none, .ext (.t 17) 0⟩,
         ⟨some 21, none, .ext (.t 17) 1⟩,
         ⟨some 5, none, .alloc 25 [.nils, .nils, .nils]⟩,
         ⟨none, none, .store 3 (.t 5) (.t 20)⟩,
         ⟨some 6, none, .mv (.t 21)⟩])
       (.keep [3, 4, 5, 6]
        (.seq
         (.ops [⟨some 22, none, .load true 3 (.t 3)⟩,
           ⟨some 23, none, .load true 3 (.t 5)⟩,
           ⟨some 24, none, .call 204 [.t 22, .t 23]⟩,
           ⟨some 25, none, .mv (.t 24)⟩,
           ⟨some 26, some (25, true), .mv (.t 4)⟩,
           ⟨some 27, some (25, true), .mv (.t 6)⟩,
           ⟨some 28, some (25, true), .bin .eql (.t 26) (.t 27)⟩,
           ⟨some 29, none, .pick (.t 25) (.t 28) (.k (.bool false))⟩,
           ⟨some 30, none, .mv (.t 29)⟩,
           ⟨some 31, some (30, true), .call 194 []⟩,
           ⟨some 32, none, .pick (.t 30) (.t 31) (.k (.bool false))⟩,
           ⟨some 2, none, .mv (.t 32)⟩])
         (.keep [2]
          .ret))))))))) }
structure N201 (R : Env) : Prop where
  o201 : R.Fn 201 c201
  n194 : N194 R
  n202 : N202 R
  n203 : N203 R
  n204 : N204 R
/-- umbra.umbralaw13.MeshBack -/
def c205 : IFn := { np := 2, rs := [.t 4], body :=
 (.seq
  (.ops [⟨some 2, none, .box 25 (.t 0)⟩,
    ⟨some 4, none, .mv (.k (.bool false))⟩])
  (.seq
   (.draw [0, 1, 0, 0, 8, 24, 60, 3, 255] [[2], [13], [1], [1], [16], [17], [15, 18], [2, 14], [19]] [⟨some 13, none, .load true 3 (.t 2)⟩,
     ⟨some 14, none, .call 191 [.t 13]⟩,
     ⟨some 15, none, .mv (.t 1)⟩,
     ⟨some 16, none, .mv (.t 1)⟩,
     ⟨some 17, none, .lenS (.t 16)⟩,
     ⟨some 18, none, .mm false [.t 17, .k (.int .i64 900)]⟩,
     ⟨some 19, none, .slcS 4 1 (.t 15) none (some (.t 18)) none⟩,
     ⟨none, none, .store 3 (.t 2) (.t 14)⟩,
     ⟨some 1, none, .mv (.t 19)⟩])
   (.keep [1, 2]
    (.seq
     (.seq
      (.ops [⟨some 21, none, .load true 3 (.t 2)⟩,
        ⟨some 22, none, .call 196 [.t 21]⟩,
        ⟨some 20, none, .mv (.t 22)⟩,
        ⟨some 23, none, .ext (.t 20) 0⟩,
        ⟨some 24, none, .ext (.t 20) 1⟩,
        ⟨some 5, none, .mv (.t 23)⟩,
        ⟨some 6, none, .mv (.t 24)⟩])
      (.keep [1, 2, 5, 6]
       (.seq
        (.ops [⟨some 25, none, .mv (.t 6)⟩,
          ⟨some 26, none, .bin .eql (.t 25) (.k (.int .i64 0))⟩])
        (.cond (.t 26)
         (.seq
          (.ops [⟨some 28, none, .mv (.t 5)⟩,
            ⟨some 29, none, .call 202 [.t 28]⟩,
            ⟨some 27, none, .mv (.t 29)⟩,
            ⟨some 30, none, .ext (.t 27) 0⟩,
            ⟨some 31, none, .ext (.t 27) 1⟩,
            ⟨some 7, none, .alloc 25 [.nils, .nils, .nils]⟩,
            ⟨none, none, .store 3 (.t 7) (.t 30)⟩,
            ⟨some 8, none, .mv (.t 31)⟩])
          (.keep [1, 2, 7, 8]
           (.seq
            (.ops [⟨some 32, none, .mv (.t 8)⟩,
              ⟨some 33, none, .bin .neq (.t 32) (.k (.int .i64 0))⟩,
              ⟨some 34, none, .mv (.t 33)⟩,
              ⟨some 35, some (34, false), .load true 3 (.t 2)⟩,
              ⟨some 36, some (34, false), .load true 3 (.t 7)⟩,
              ⟨some 37, some (34, false), .call 204 [.t 35, .t 36]⟩,
              ⟨some 38, some (34, false), .un .not (.t 37)⟩,
              ⟨some 39, none, .pick (.t 34) (.k (.bool true)) (.t 38)⟩])
            (.keep [1, 39]
             (.cond (.t 39)
              (.seq
               (.ops [⟨some 4, none, .mv (.k (.bool false))⟩])
               .ret)
              .skip)))))
         .skip))))
     (.keep [1]
      (.seq
       (.ops [⟨some 41, none, .mv (.t 1)⟩,
         ⟨some 42, none, .call 202 [.t 41]⟩,
         ⟨some 40, none, .mv (.t 42)⟩,
         ⟨some 43, none, .ext (.t 40) 0⟩,
         ⟨some 44, none, .ext (.t 40) 1⟩,
         ⟨some 9, none, .alloc 25 [.nils, .nils, .nils]⟩,
         ⟨none, none, .store 3 (.t 9) (.t 43)⟩,
         ⟨some 10, none, .mv (.t 44)⟩])
       (.keep [1, 9, 10]
        (.seq
         (.seq
          (.ops [⟨some 45, none, .mv (.t 10)⟩,
            ⟨some 46, none, .bin .neq (.t 45) (.k (.int .i64 0))⟩])
          (.cond (.t 46)
           (.seq
            (.ops [⟨some 47, none, .fldA 0 (.t 9)⟩,
              ⟨some 48, none, .load false 1 (.t 47)⟩,
              ⟨some 49, none, .lenS (.t 48)⟩,
              ⟨some 50, none, .fldA 2 (.t 9)⟩,
              ⟨some 51, none, .load false 1 (.t 50)⟩,
              ⟨some 52, none, .lenS (.t 51)⟩,
              ⟨some 53, none, .bin .add (.t 49) (.t 52)⟩,
              ⟨some 54, none, .bin .eql (.t 53) (.k (.int .i64 0))⟩,
              ⟨some 55, none, .mv (.t 54)⟩,
              ⟨some 56, some (55, true), .call 194 []⟩,
              ⟨some 57, none, .pick (.t 55) (.t 56) (.k (.bool false))⟩,
              ⟨some 4, none, .mv (.t 57)⟩])
            (.keep [4]
             .ret))
           .skip))
         (.keep [1, 9]
          (.seq
           (.ops [⟨some 59, none, .load true 3 (.t 9)⟩,
             ⟨some 60, none, .call 196 [.t 59]⟩,
             ⟨some 58, none, .mv (.t 60)⟩,
             ⟨some 61, none, .ext (.t 58) 0⟩,
             ⟨some 62, none, .ext (.t 58) 1⟩,
             ⟨some 11, none, .mv (.t 61)⟩,
             ⟨some 12, none, .mv (.t 62)⟩])
           (.keep [1, 11, 12]
            (.seq
             (.ops [⟨some 63, none, .mv (.t 12)⟩,
               ⟨some 64, none, .bin .eql (.t 63) (.k (.int .i64 0))⟩,
               ⟨some 65, none, .mv (.t 64)⟩,
               ⟨some 66, some (65, true), .mv (.t 1)⟩,
               ⟨some 67, some (65, true), .mv (.t 11)⟩,
               ⟨some 68, some (65, true), .call 47 [.t 66, .t 67]⟩,
               ⟨some 69, none, .pick (.t 65) (.t 68) (.k (.bool false))⟩,
               ⟨some 70, none, .mv (.t 69)⟩,
               ⟨some 71, some (70, true), .call 194 []⟩,
               ⟨some 72, none, .pick (.t 70) (.t 71) (.k (.bool false))⟩,
               ⟨some 4, none, .mv (.t 72)⟩])
             (.keep [4]
              .ret))))))))))))) }
structure N205 (R : Env) : Prop where
  o205 : R.Fn 205 c205
  n47 : N47 R
  n191 : N191 R
  n194 : N194 R
  n196 : N196 R
  n202 : N202 R
  n204 : N204 R
end Go.UM

/- Bytes and rows of numbers. -/

namespace Go.UM
open Go.AM

/-- The byte of a number. -/
def u8 (n : Int) : UInt8 := UInt8.ofNat (n % 256).toNat
theorem wr_u8 (n : Int) : wr .u8 n = ((u8 n).toNat : Int) := by
  have h1 : 0 ≤ n % 256 := Int.emod_nonneg _ (by decide)
  have h2 : n % 256 < 256 := Int.emod_lt_of_pos _ (by decide)
  simp only [wr, IntKind.wrap, IntKind.bits, IntKind.signed, u8]
  simp
  omega
theorem u8_mod (n : Int) : u8 (n % 256) = u8 n := by unfold u8; rw [Int.emod_emod_of_dvd n (Int.dvd_refl 256)]
theorem u8_tmod {n : Int} (h : 0 ≤ n) : u8 (n.tmod 256) = u8 n := by rw [Int.tmod_eq_emod_of_nonneg h, u8_mod]
theorem u8_toNat (c : UInt8) : u8 (c.toNat : Int) = c := by
  have := c.toNat_lt
  unfold u8
  rw [show ((c.toNat : Int) % 256).toNat = c.toNat by omega]
  simp

theorem u8_in {n : Int} (h : 0 ≤ n ∧ n ≤ 255) : ((u8 n).toNat : Int) = n := by rw [← wr_u8, wr_in (k := .u8) h]

/-- Bytes, and numbers, as the elements of a slice. -/
def slc8 (l : List UInt8) : List (List AV) := l.map fun c => [.int .u8 c.toNat]
def slcK (k : IntKind) (l : List Int) : List (List AV) := l.map fun x => [.int k x]
@[simp] theorem slc8_nil : slc8 [] = [] := rfl
@[simp] theorem slc8_length (l : List UInt8) : (slc8 l).length = l.length := by simp [slc8]
@[simp] theorem slc8_append (a b : List UInt8) : slc8 (a ++ b) = slc8 a ++ slc8 b := by simp [slc8]
@[simp] theorem slc8_one (n : Int) : [[AV.int .u8 (wr .u8 n)]] = slc8 [u8 n] := by simp [slc8, wr_u8]
@[simp] theorem slcK_nil (k : IntKind) : slcK k [] = [] := rfl
@[simp] theorem slcK_length (k : IntKind) (l : List Int) : (slcK k l).length = l.length := by simp [slcK]
@[simp] theorem slcK_append (k : IntKind) (a b : List Int) : slcK k (a ++ b) = slcK k a ++ slcK k b := by simp [slcK]
theorem slcK_one (k : IntKind) (n : Int) : [[AV.int k n]] = slcK k [n] := rfl
@[simp] theorem slc8_NmL (l : List UInt8) : NmL (slc8 l) := by simp [slc8]
@[simp] theorem slcK_NmL (k : IntKind) (l : List Int) : NmL (slcK k l) := by simp [slcK]
@[simp] theorem slc8_FlL (l : List UInt8) : FlL (slc8 l) := by simp [slc8]
@[simp] theorem slcK_FlL (k : IntKind) (l : List Int) : FlL (slcK k l) := by simp [slcK]
instance {l : List UInt8} : LenOf (slc8 l) l.length := ⟨slc8_length l⟩
instance {k : IntKind} {l : List Int} : LenOf (slcK k l) l.length := ⟨slcK_length k l⟩
@[simp] theorem mem_slc8 {e : List AV} {l : List UInt8} : e ∈ slc8 l ↔ ∃ c, c ∈ l ∧ [AV.int .u8 c.toNat] = e := by simp [slc8]
@[simp] theorem mem_slcK {k : IntKind} {e : List AV} {l : List Int} : e ∈ slcK k l ↔ ∃ c, c ∈ l ∧ [AV.int k c] = e := by simp [slcK]
theorem slc8_take (l : List UInt8) (k : Nat) : (slc8 l).take k = slc8 (l.take k) := by simp [slc8, List.map_take]
theorem slc8_drop (l : List UInt8) (k : Nat) : (slc8 l).drop k = slc8 (l.drop k) := by simp [slc8, List.map_drop]
theorem slcK_take (k' : IntKind) (l : List Int) (k : Nat) : (slcK k' l).take k = slcK k' (l.take k) := by simp [slcK, List.map_take]
theorem slcK_drop (k' : IntKind) (l : List Int) (k : Nat) : (slcK k' l).drop k = slcK k' (l.drop k) := by simp [slcK, List.map_drop]
theorem slc8_inj {a b : List UInt8} (h : slc8 a = slc8 b) : a = b := by
  have := congrArg (List.map fun e : List AV => match e with | [.int _ n] => u8 n | _ => 0) h
  simpa [slc8, List.map_map, Function.comp_def, u8_toNat] using this
theorem get8 {l : List UInt8} {i : Nat} {x : UInt8} (h : l[i]? = some x) {K : List AV → Prop} (k : K [.int .u8 x.toNat]) : EGet (slc8 l) i K := eget_map h k
theorem getK {kk : IntKind} {l : List Int} {i : Nat} {x : Int} (h : l[i]? = some x) {K : List AV → Prop} (k : K [.int kk x]) : EGet (slcK kk l) i K := eget_map h k

theorem take_succ_get {α : Type} {l : List α} {k : Nat} {x : α} (h : l[k]? = some x) : l.take (k + 1) = l.take k ++ [x] := by
  rw [List.take_add_one, h]; rfl

theorem shr_eq {k : IntKind} {x y : Int} (hx : 0 ≤ x) : shrI k x y = x / 2 ^ (min y.toNat k.bits) := by
  unfold shrI
  rw [Int.fdiv_eq_ediv_of_nonneg]
  exact Int.le_of_lt (Int.pow_pos (by decide))
theorem aS8 {s : List UInt8} {K : List UInt8 → Prop} (k : K s) : AStr (slc8 s) K := ⟨⟨s, rfl, k⟩⟩
theorem take_cap {α : Type} (l : List α) (m : Int) : l.take (min (l.length : Int) m).toNat = l.take m.toNat := by
  by_cases h : (l.length : Int) ≤ m
  · rw [show (min (l.length : Int) m).toNat = l.length by omega, List.take_of_length_le (Nat.le_refl _), List.take_of_length_le (by omega)]
  · rw [show (min (l.length : Int) m).toNat = m.toNat by omega]
theorem cap8 (b : List UInt8) (m : Int) : (slc8 b).take (min (b.length : Int) m).toNat = slc8 (b.take m.toNat) := by rw [slc8_take, take_cap]
theorem capK (k : IntKind) (b : List Int) (m : Int) : (slcK k b).take (min (b.length : Int) m).toNat = slcK k (b.take m.toNat) := by rw [slcK_take, take_cap]
instance {l : List UInt8} {k : Nat} : TkOf ((slc8 l).take k) (slc8 (l.take k)) := ⟨slc8_take l k⟩
instance {l : List UInt8} {k : Nat} : TkOf ((slc8 l).drop k) (slc8 (l.drop k)) := ⟨slc8_drop l k⟩
instance {l : List UInt8} {k j : Nat} : TkOf (((slc8 l).take k).drop j) (slc8 ((l.take k).drop j)) := ⟨by rw [slc8_take, slc8_drop]⟩
instance {kk : IntKind} {l : List Int} {k : Nat} : TkOf ((slcK kk l).take k) (slcK kk (l.take k)) := ⟨slcK_take kk l k⟩
instance {kk : IntKind} {l : List Int} {k : Nat} : TkOf ((slcK kk l).drop k) (slcK kk (l.drop k)) := ⟨slcK_drop kk l k⟩
instance {kk : IntKind} {l : List Int} {k j : Nat} : TkOf (((slcK kk l).take k).drop j) (slcK kk ((l.take k).drop j)) := ⟨by rw [slcK_take, slcK_drop]⟩
end Go.UM

/- Rows of three numbers. -/

namespace Go.UM
open Go.AM

/-- Three numbers. -/
structure T3 where
  (a b c : Int)
def t3 (x : T3) : List AV := [.int .i64 x.a, .int .i64 x.b, .int .i64 x.c]
def slc3 (l : List T3) : List (List AV) := l.map t3
@[simp] theorem slc3_nil : slc3 [] = [] := rfl
@[simp] theorem slc3_length (l : List T3) : (slc3 l).length = l.length := by simp [slc3]
@[simp] theorem slc3_append (a b : List T3) : slc3 (a ++ b) = slc3 a ++ slc3 b := by simp [slc3]
@[simp] theorem slc3_NmL (l : List T3) : NmL (slc3 l) := by simp [slc3, t3]
@[simp] theorem slc3_FlL (l : List T3) : FlL (slc3 l) := by simp [slc3, t3]
theorem slc3_take (l : List T3) (k : Nat) : (slc3 l).take k = slc3 (l.take k) := by simp [slc3, List.map_take]
theorem slc3_drop (l : List T3) (k : Nat) : (slc3 l).drop k = slc3 (l.drop k) := by simp [slc3, List.map_drop]
instance {l : List T3} : LenOf (slc3 l) l.length := ⟨slc3_length l⟩
instance {l : List T3} {k : Nat} : TkOf ((slc3 l).take k) (slc3 (l.take k)) := ⟨slc3_take l k⟩
instance {l : List T3} {k : Nat} : TkOf ((slc3 l).drop k) (slc3 (l.drop k)) := ⟨slc3_drop l k⟩
end Go.UM

/- Package mesh, part 1: what may be. -/



namespace Go.UM
open Go.AM
set_option maxRecDepth 4000

/-- Rows of two numbers. -/
def p2 (x : Int × Int) : List AV := [.int .i64 x.1, .int .i64 x.2]
def slc2 (l : List (Int × Int)) : List (List AV) := l.map p2
@[simp] theorem slc2_nil : slc2 [] = [] := rfl
@[simp] theorem slc2_length (l : List (Int × Int)) : (slc2 l).length = l.length := by simp [slc2]
@[simp] theorem slc2_append (a b : List (Int × Int)) : slc2 (a ++ b) = slc2 a ++ slc2 b := by simp [slc2]
@[simp] theorem slc2_NmL (l : List (Int × Int)) : NmL (slc2 l) := by simp [slc2, p2]
@[simp] theorem slc2_FlL (l : List (Int × Int)) : FlL (slc2 l) := by simp [slc2, p2]
theorem slc2_take (l : List (Int × Int)) (k : Nat) : (slc2 l).take k = slc2 (l.take k) := by simp [slc2, List.map_take]
instance {l : List (Int × Int)} : LenOf (slc2 l) l.length := ⟨slc2_length l⟩
instance {l : List (Int × Int)} {k : Nat} : TkOf ((slc2 l).take k) (slc2 (l.take k)) := ⟨slc2_take l k⟩

/-- A mesh. -/
structure Ms where
  v : List T3
  uv : List (Int × Int)
  t : List T3
def Ms.row (m : Ms) : List AV := [.isl 3 (slc3 m.v), .isl 2 (slc2 m.uv), .isl 3 (slc3 m.t)]

def off3 (p : T3) : Bool := !(decide (-4096 ≤ p.a ∧ p.a ≤ 4096 ∧ -4096 ≤ p.b ∧ p.b ≤ 4096 ∧ -4096 ≤ p.c ∧ p.c ≤ 4096))
def bad2 (x : Int × Int) : Bool := !(decide (0 ≤ x.1 ∧ x.1 ≤ 65535 ∧ 0 ≤ x.2 ∧ x.2 ≤ 65535))
def badT (n : Nat) (t : T3) : Bool := !(decide (0 ≤ t.a ∧ t.a < n ∧ 0 ≤ t.b ∧ t.b < n ∧ 0 ≤ t.c ∧ t.c < n ∧ t.a ≠ t.b ∧ t.b ≠ t.c ∧ t.c ≠ t.a))
def mchk (m : Ms) : Int :=
  if 64 < m.v.length ∨ 64 < m.t.length then 3
  else if m.v.length = 0 ∨ m.t.length = 0 ∨ m.uv.length ≠ m.v.length then 5
  else if m.v.any off3 = true then 8
  else if m.uv.any bad2 = true ∨ m.t.any (badT m.v.length) = true then 5 else 0

/-! ### Searching by a function -/
def fidx {α : Type} (l : List α) (p : α → Bool) : Int := if l.any p = true then (l.findIdx p : Int) else -1
theorem fidx_at {α : Type} {p : α → Bool} {x : α} : ∀ {l : List α} {i : Nat}, l[i]? = some x → p x = true → (l.take i).any p = false → l.findIdx p = i
  | [], _, h, _, _ => by simp at h
  | a :: r, 0, h, hp, _ => by simp at h; subst h; simp [List.findIdx_cons, hp]
  | a :: r, i + 1, h, hp, hn => by
    simp only [List.take_succ_cons, List.any_cons, Bool.or_eq_false_iff] at hn
    rw [List.findIdx_cons, hn.1, fidx_at (l := r) (i := i) (by simpa using h) hp hn.2]
    rfl
theorem any_at {α : Type} {p : α → Bool} {l : List α} {i : Nat} {x : α} (h : l[i]? = some x) (hp : p x = true) : l.any p = true := List.any_eq_true.2 ⟨x, List.mem_of_getElem? h, hp⟩
theorem any_take_succ' {α : Type} {l : List α} {k : Nat} {x : α} {p : α → Bool} (h : l[k]? = some x) : (l.take (k + 1)).any p = ((l.take k).any p || p x) := by
  rw [take_succ_get h]; simp
theorem fidx_ge {α : Type} {l : List α} {p : α → Bool} : decide (fidx l p ≥ 0) = l.any p := by
  unfold fidx
  split
  · rename_i h; rw [h]; simp
  · rename_i h; simp at h ⊢; exact h


/-- What ContainsFunc is asked of a closure. -/
theorem idx217_c {R : Env} (h : N217 R) (g : Nat) (hb : HasBody R.P (R.ft g)) (l : List T3) (p : T3 → Bool) (hc : ∀ x ∈ l, R.Pc g [.agg (t3 x)] (.bool (p x))) (hl : l.length ≤ 1073741824) : R.Pc 217 [.isl 3 (slc3 l), R.cl g []] (.int .i64 (fidx l p)) :=
  h.o217.enter 100 rfl fun X bb hfit hp => by
    repeat ((intro _u; clear _u); first | with_reducible first | refine cT ?_ | refine cF ?_ | refine cA ?_ | refine cB ?_ | refine aLn ?_ | refine cK ?_ | refine aS8 ?_ | refine wI ?_ | refine nD ?_ | refine aX rfl ?_ | refine vL rfl ?_)
    intro _u; clear _u
    refine lPa 100 (fun i : Nat => i ≤ l.length ∧ (l.take i).any p = false) (fun i => ⟨[(0, .isl 3 (slc3 l)), (1, R.cl g []), (7, .int .i64 l.length), (8, .int .i64 i)], [], 0⟩) (fun i => l.length - i) (0) ?_ ?_
    · exact ⟨Nat.zero_le _, by simp⟩
    · intro i hi
      dsimp only
      repeat ((intro _u; clear _u); first | with_reducible first | refine cT ?_ | refine cF ?_ | refine cA ?_ | refine cB ?_ | refine aLn ?_ | refine cK ?_ | refine aS8 ?_ | refine wI ?_ | refine nD ?_ | refine aX rfl ?_ | refine vL rfl ?_)
      intro _u; clear _u
      refine cS (fun h1 => ?_) (fun h1 => ?_)
      · obtain ⟨x, hx⟩ : ∃ u_, l[i]? = some u_ := ⟨_, List.getElem?_eq_getElem (by first | omega | (simp <;> omega))⟩
        repeat ((intro _u; clear _u); first | with_reducible first | refine cT ?_ | refine cF ?_ | refine cA ?_ | refine cB ?_ | refine aLn ?_ | refine cK ?_ | refine aS8 ?_ | refine wI ?_ | refine nD ?_ | refine aX rfl ?_ | refine vL rfl ?_)
        intro _u; clear _u
        refine eget_map hx ?_
        repeat ((intro _u; clear _u); first | with_reducible first | refine cT ?_ | refine cF ?_ | refine cA ?_ | refine cB ?_ | refine aLn ?_ | refine cK ?_ | refine aS8 ?_ | refine wI ?_ | refine nD ?_ | refine aX rfl ?_ | refine vL rfl ?_)
        intro _u; clear _u
        refine ICall.pure hb (hc x (List.mem_of_getElem? hx)) rfl ?_
        repeat ((intro _u; clear _u); first | with_reducible first | refine cT ?_ | refine cF ?_ | refine cA ?_ | refine cB ?_ | refine aLn ?_ | refine cK ?_ | refine aS8 ?_ | refine wI ?_ | refine nD ?_ | refine aX rfl ?_ | refine vL rfl ?_)
        intro _u; clear _u
        refine cS (fun h2 => ?_) (fun h2 => ?_)
        · repeat ((intro _u; clear _u); first | with_reducible first | refine cT ?_ | refine cF ?_ | refine cA ?_ | refine cB ?_ | refine aLn ?_ | refine cK ?_ | refine aS8 ?_ | refine wI ?_ | refine nD ?_ | refine aX rfl ?_ | refine vL rfl ?_)
          intro _u; clear _u
          refine rT ?_
          all_goals repeat' (first | exact True.intro | refine And.intro ?_ ?_ | (intro _u; clear _u) | (with_reducible first | refine eM ?_ ?_ | refine eF ?_ ?_ ?_ | refine eN ?_ | refine eL ?_ ?_ ?_ | refine eA ?_ ?_ | refine IWk.mk ⟨_, hp, rfl⟩ ?_ ?_) | refine IWk.mk ⟨_, hp, rfl⟩ ?_ ?_)
          all_goals first | with_reducible rfl | omega | exact Or.inl (by decide) | (simp; done) | rfl | skip
          unfold fidx
          rw [if_pos (any_at hx h2), fidx_at hx h2 hi.2]
        · repeat ((intro _u; clear _u); first | with_reducible first | refine cT ?_ | refine cF ?_ | refine cA ?_ | refine cB ?_ | refine aLn ?_ | refine cK ?_ | refine aS8 ?_ | refine wI ?_ | refine nD ?_ | refine aX rfl ?_ | refine vL rfl ?_)
          intro _u; clear _u
          refine nXa (i + 1) ?_ ?_
          · refine ⟨by omega, ?_⟩
            rw [any_take_succ' hx, hi.2, h2]; rfl
          · omega
      · repeat ((intro _u; clear _u); first | with_reducible first | refine cT ?_ | refine cF ?_ | refine cA ?_ | refine cB ?_ | refine aLn ?_ | refine cK ?_ | refine aS8 ?_ | refine wI ?_ | refine nD ?_ | refine aX rfl ?_ | refine vL rfl ?_)
        intro _u; clear _u
        refine rT ?_
        all_goals repeat' (first | exact True.intro | refine And.intro ?_ ?_ | (intro _u; clear _u) | (with_reducible first | refine eM ?_ ?_ | refine eF ?_ ?_ ?_ | refine eN ?_ | refine eL ?_ ?_ ?_ | refine eA ?_ ?_ | refine IWk.mk ⟨_, hp, rfl⟩ ?_ ?_) | refine IWk.mk ⟨_, hp, rfl⟩ ?_ ?_)
        all_goals first | with_reducible rfl | omega | exact Or.inl (by decide) | (simp; done) | rfl | skip
        unfold fidx
        have h3 := hi.2
        rw [List.take_of_length_le (by omega)] at h3
        rw [if_neg (by simp [h3])]
theorem cont209_c {R : Env} (h : N209 R) (g : Nat) (hb : HasBody R.P (R.ft g)) (l : List T3) (p : T3 → Bool) (hc : ∀ x ∈ l, R.Pc g [.agg (t3 x)] (.bool (p x))) (hl : l.length ≤ 1073741824) : R.Pc 209 [.isl 3 (slc3 l), R.cl g []] (.bool (l.any p)) :=
  h.o209.enter 100 rfl fun X bb hfit hp => by
    repeat ((intro _u; clear _u); first | with_reducible first | refine cT ?_ | refine cF ?_ | refine cA ?_ | refine cB ?_ | refine aLn ?_ | refine cK ?_ | refine aS8 ?_ | refine wI ?_ | refine nD ?_ | refine aX rfl ?_ | refine vL rfl ?_)
    intro _u; clear _u
    refine ICall.pure h.n217.o217.hb (idx217_c h.n217 g hb l p hc hl) rfl ?_
    repeat ((intro _u; clear _u); first | with_reducible first | refine cT ?_ | refine cF ?_ | refine cA ?_ | refine cB ?_ | refine aLn ?_ | refine cK ?_ | refine aS8 ?_ | refine wI ?_ | refine nD ?_ | refine aX rfl ?_ | refine vL rfl ?_)
    intro _u; clear _u
    refine rT ?_
    all_goals repeat' (first | exact True.intro | refine And.intro ?_ ?_ | (intro _u; clear _u) | (with_reducible first | refine eM ?_ ?_ | refine eF ?_ ?_ ?_ | refine eN ?_ | refine eL ?_ ?_ ?_ | refine eA ?_ ?_ | refine IWk.mk ⟨_, hp, rfl⟩ ?_ ?_) | refine IWk.mk ⟨_, hp, rfl⟩ ?_ ?_)
    all_goals first | with_reducible rfl | omega | exact Or.inl (by decide) | (simp; done) | rfl | skip
    exact fidx_ge

theorem idx218_c {R : Env} (h : N218 R) (g : Nat) (hb : HasBody R.P (R.ft g)) (l : List (Int × Int)) (p : Int × Int → Bool) (hc : ∀ x ∈ l, R.Pc g [.agg (p2 x)] (.bool (p x))) (hl : l.length ≤ 1073741824) : R.Pc 218 [.isl 2 (slc2 l), R.cl g []] (.int .i64 (fidx l p)) :=
  h.o218.enter 100 rfl fun X bb hfit hp => by
    repeat ((intro _u; clear _u); first | with_reducible first | refine cT ?_ | refine cF ?_ | refine cA ?_ | refine cB ?_ | refine aLn ?_ | refine cK ?_ | refine aS8 ?_ | refine wI ?_ | refine nD ?_ | refine aX rfl ?_ | refine vL rfl ?_)
    intro _u; clear _u
    refine lPa 100 (fun i : Nat => i ≤ l.length ∧ (l.take i).any p = false) (fun i => ⟨[(0, .isl 2 (slc2 l)), (1, R.cl g []), (7, .int .i64 l.length), (8, .int .i64 i)], [], 0⟩) (fun i => l.length - i) (0) ?_ ?_
    · exact ⟨Nat.zero_le _, by simp⟩
    · intro i hi
      dsimp only
      repeat ((intro _u; clear _u); first | with_reducible first | refine cT ?_ | refine cF ?_ | refine cA ?_ | refine cB ?_ | refine aLn ?_ | refine cK ?_ | refine aS8 ?_ | refine wI ?_ | refine nD ?_ | refine aX rfl ?_ | refine vL rfl ?_)
      intro _u; clear _u
      refine cS (fun h1 => ?_) (fun h1 => ?_)
      · obtain ⟨x, hx⟩ : ∃ u_, l[i]? = some u_ := ⟨_, List.getElem?_eq_getElem (by first | omega | (simp <;> omega))⟩
        repeat ((intro _u; clear _u); first | with_reducible first | refine cT ?_ | refine cF ?_ | refine cA ?_ | refine cB ?_ | refine aLn ?_ | refine cK ?_ | refine aS8 ?_ | refine wI ?_ | refine nD ?_ | refine aX rfl ?_ | refine vL rfl ?_)
        intro _u; clear _u
        refine eget_map hx ?_
        repeat ((intro _u; clear _u); first | with_reducible first | refine cT ?_ | refine cF ?_ | refine cA ?_ | refine cB ?_ | refine aLn ?_ | refine cK ?_ | refine aS8 ?_ | refine wI ?_ | refine nD ?_ | refine aX rfl ?_ | refine vL rfl ?_)
        intro _u; clear _u
        refine ICall.pure hb (hc x (List.mem_of_getElem? hx)) rfl ?_
        repeat ((intro _u; clear _u); first | with_reducible first | refine cT ?_ | refine cF ?_ | refine cA ?_ | refine cB ?_ | refine aLn ?_ | refine cK ?_ | refine aS8 ?_ | refine wI ?_ | refine nD ?_ | refine aX rfl ?_ | refine vL rfl ?_)
        intro _u; clear _u
        refine cS (fun h2 => ?_) (fun h2 => ?_)
        · repeat ((intro _u; clear _u); first | with_reducible first | refine cT ?_ | refine cF ?_ | refine cA ?_ | refine cB ?_ | refine aLn ?_ | refine cK ?_ | refine aS8 ?_ | refine wI ?_ | refine nD ?_ | refine aX rfl ?_ | refine vL rfl ?_)
          intro _u; clear _u
          refine rT ?_
          all_goals repeat' (first | exact True.intro | refine And.intro ?_ ?_ | (intro _u; clear _u) | (with_reducible first | refine eM ?_ ?_ | refine eF ?_ ?_ ?_ | refine eN ?_ | refine eL ?_ ?_ ?_ | refine eA ?_ ?_ | refine IWk.mk ⟨_, hp, rfl⟩ ?_ ?_) | refine IWk.mk ⟨_, hp, rfl⟩ ?_ ?_)
          all_goals first | with_reducible rfl | omega | exact Or.inl (by decide) | (simp; done) | rfl | skip
          unfold fidx
          rw [if_pos (any_at hx h2), fidx_at hx h2 hi.2]
        · repeat ((intro _u; clear _u); first | with_reducible first | refine cT ?_ | refine cF ?_ | refine cA ?_ | refine cB ?_ | refine aLn ?_ | refine cK ?_ | refine aS8 ?_ | refine wI ?_ | refine nD ?_ | refine aX rfl ?_ | refine vL rfl ?_)
          intro _u; clear _u
          refine nXa (i + 1) ?_ ?_
          · refine ⟨by omega, ?_⟩
            rw [any_take_succ' hx, hi.2, h2]; rfl
          · omega
      · repeat ((intro _u; clear _u); first | with_reducible first | refine cT ?_ | refine cF ?_ | refine cA ?_ | refine cB ?_ | refine aLn ?_ | refine cK ?_ | refine aS8 ?_ | refine wI ?_ | refine nD ?_ | refine aX rfl ?_ | refine vL rfl ?_)
        intro _u; clear _u
        refine rT ?_
        all_goals repeat' (first | exact True.intro | refine And.intro ?_ ?_ | (intro _u; clear _u) | (with_reducible first | refine eM ?_ ?_ | refine eF ?_ ?_ ?_ | refine eN ?_ | refine eL ?_ ?_ ?_ | refine eA ?_ ?_ | refine IWk.mk ⟨_, hp, rfl⟩ ?_ ?_) | refine IWk.mk ⟨_, hp, rfl⟩ ?_ ?_)
        all_goals first | with_reducible rfl | omega | exact Or.inl (by decide) | (simp; done) | rfl | skip
        unfold fidx
        have h3 := hi.2
        rw [List.take_of_length_le (by omega)] at h3
        rw [if_neg (by simp [h3])]
theorem cont210_c {R : Env} (h : N210 R) (g : Nat) (hb : HasBody R.P (R.ft g)) (l : List (Int × Int)) (p : Int × Int → Bool) (hc : ∀ x ∈ l, R.Pc g [.agg (p2 x)] (.bool (p x))) (hl : l.length ≤ 1073741824) : R.Pc 210 [.isl 2 (slc2 l), R.cl g []] (.bool (l.any p)) :=
  h.o210.enter 100 rfl fun X bb hfit hp => by
    repeat ((intro _u; clear _u); first | with_reducible first | refine cT ?_ | refine cF ?_ | refine cA ?_ | refine cB ?_ | refine aLn ?_ | refine cK ?_ | refine aS8 ?_ | refine wI ?_ | refine nD ?_ | refine aX rfl ?_ | refine vL rfl ?_)
    intro _u; clear _u
    refine ICall.pure h.n218.o218.hb (idx218_c h.n218 g hb l p hc hl) rfl ?_
    repeat ((intro _u; clear _u); first | with_reducible first | refine cT ?_ | refine cF ?_ | refine cA ?_ | refine cB ?_ | refine aLn ?_ | refine cK ?_ | refine aS8 ?_ | refine wI ?_ | refine nD ?_ | refine aX rfl ?_ | refine vL rfl ?_)
    intro _u; clear _u
    refine rT ?_
    all_goals repeat' (first | exact True.intro | refine And.intro ?_ ?_ | (intro _u; clear _u) | (with_reducible first | refine eM ?_ ?_ | refine eF ?_ ?_ ?_ | refine eN ?_ | refine eL ?_ ?_ ?_ | refine eA ?_ ?_ | refine IWk.mk ⟨_, hp, rfl⟩ ?_ ?_) | refine IWk.mk ⟨_, hp, rfl⟩ ?_ ?_)
    all_goals first | with_reducible rfl | omega | exact Or.inl (by decide) | (simp; done) | rfl | skip
    exact fidx_ge

def msM (R : Env) (m : Ms) : IMem := [(0, .var (R.ty 25) m.row)]
theorem idx219_c {R : Env} (h : N219 R) (g : Nat) (l : List T3) (p : T3 → Bool) (m : Ms) (hc : ∀ x ∈ l, R.Mc g [.agg (t3 x), .loc 0 1 0 0] (msM R m) (.bool (p x)) (msM R m) 1) (hl : l.length ≤ 1073741824) :
    R.Mc 219 [.isl 3 (slc3 l), R.cl g [.loc 0 1 0 0]] (msM R m) (.int .i64 (fidx l p)) (msM R m) 1 :=
  h.o219.enterM 100 1 rfl rfl rfl fun X bb hfit hp => by
    repeat ((intro _u; clear _u); first | with_reducible first | refine cT ?_ | refine cF ?_ | refine cA ?_ | refine cB ?_ | refine aLn ?_ | refine cK ?_ | refine aS8 ?_ | refine wI ?_ | refine nD ?_ | refine aX rfl ?_ | refine vL rfl ?_)
    intro _u; clear _u
    refine lPa 100 (fun i : Nat => i ≤ l.length ∧ (l.take i).any p = false) (fun i => ⟨[(0, .isl 3 (slc3 l)), (1, R.cl g [.loc 0 1 0 0]), (7, .int .i64 l.length), (8, .int .i64 i)], msM R m, 1⟩) (fun i => l.length - i) (0) ?_ ?_
    · exact ⟨Nat.zero_le _, by simp⟩
    · intro i hi
      dsimp only
      repeat ((intro _u; clear _u); first | with_reducible first | refine cT ?_ | refine cF ?_ | refine cA ?_ | refine cB ?_ | refine aLn ?_ | refine cK ?_ | refine aS8 ?_ | refine wI ?_ | refine nD ?_ | refine aX rfl ?_ | refine vL rfl ?_)
      intro _u; clear _u
      refine cS (fun h1 => ?_) (fun h1 => ?_)
      · obtain ⟨x, hx⟩ : ∃ u_, l[i]? = some u_ := ⟨_, List.getElem?_eq_getElem (by first | omega | (simp <;> omega))⟩
        repeat ((intro _u; clear _u); first | with_reducible first | refine cT ?_ | refine cF ?_ | refine cA ?_ | refine cB ?_ | refine aLn ?_ | refine cK ?_ | refine aS8 ?_ | refine wI ?_ | refine nD ?_ | refine aX rfl ?_ | refine vL rfl ?_)
        intro _u; clear _u
        refine eget_map hx ?_
        repeat ((intro _u; clear _u); first | with_reducible first | refine cT ?_ | refine cF ?_ | refine cA ?_ | refine cB ?_ | refine aLn ?_ | refine cK ?_ | refine aS8 ?_ | refine wI ?_ | refine nD ?_ | refine aX rfl ?_ | refine vL rfl ?_)
        intro _u; clear _u
        refine cM false [0] (hc x (List.mem_of_getElem? hx)) ?_
        repeat ((intro _u; clear _u); first | refine eK ?_ | refine eP ?_)
        repeat ((intro _u; clear _u); first | with_reducible first | refine cT ?_ | refine cF ?_ | refine cA ?_ | refine cB ?_ | refine aLn ?_ | refine cK ?_ | refine aS8 ?_ | refine wI ?_ | refine nD ?_ | refine aX rfl ?_ | refine vL rfl ?_)
        intro _u; clear _u
        refine cS (fun h2 => ?_) (fun h2 => ?_)
        · repeat ((intro _u; clear _u); first | with_reducible first | refine cT ?_ | refine cF ?_ | refine cA ?_ | refine cB ?_ | refine aLn ?_ | refine cK ?_ | refine aS8 ?_ | refine wI ?_ | refine nD ?_ | refine aX rfl ?_ | refine vL rfl ?_)
          intro _u; clear _u
          refine rM [0] ?_
          all_goals repeat' (first | exact True.intro | refine And.intro ?_ ?_ | (intro _u; clear _u) | (with_reducible first | refine eM ?_ ?_ | refine eF ?_ ?_ ?_ | refine eN ?_ | refine eL ?_ ?_ ?_ | refine eA ?_ ?_ | refine IWk.mk ⟨_, hp, rfl⟩ ?_ ?_) | refine IWk.mk ⟨_, hp, rfl⟩ ?_ ?_)
          all_goals first | with_reducible rfl | omega | exact Or.inl (by decide) | (simp; done) | rfl | skip
          unfold fidx
          rw [if_pos (any_at hx h2), fidx_at hx h2 hi.2]
        · repeat ((intro _u; clear _u); first | with_reducible first | refine cT ?_ | refine cF ?_ | refine cA ?_ | refine cB ?_ | refine aLn ?_ | refine cK ?_ | refine aS8 ?_ | refine wI ?_ | refine nD ?_ | refine aX rfl ?_ | refine vL rfl ?_)
          intro _u; clear _u
          refine nXa (i + 1) ?_ ?_
          · refine ⟨by omega, ?_⟩
            rw [any_take_succ' hx, hi.2, h2]; rfl
          · omega
      · repeat ((intro _u; clear _u); first | with_reducible first | refine cT ?_ | refine cF ?_ | refine cA ?_ | refine cB ?_ | refine aLn ?_ | refine cK ?_ | refine aS8 ?_ | refine wI ?_ | refine nD ?_ | refine aX rfl ?_ | refine vL rfl ?_)
        intro _u; clear _u
        refine rM [0] ?_
        all_goals repeat' (first | exact True.intro | refine And.intro ?_ ?_ | (intro _u; clear _u) | (with_reducible first | refine eM ?_ ?_ | refine eF ?_ ?_ ?_ | refine eN ?_ | refine eL ?_ ?_ ?_ | refine eA ?_ ?_ | refine IWk.mk ⟨_, hp, rfl⟩ ?_ ?_) | refine IWk.mk ⟨_, hp, rfl⟩ ?_ ?_)
        all_goals first | with_reducible rfl | omega | exact Or.inl (by decide) | (simp; done) | rfl | skip
        unfold fidx
        have h3 := hi.2
        rw [List.take_of_length_le (by omega)] at h3
        rw [if_neg (by simp [h3])]
theorem cont211_c {R : Env} (h : N211 R) (g : Nat) (l : List T3) (p : T3 → Bool) (m : Ms) (hc : ∀ x ∈ l, R.Mc g [.agg (t3 x), .loc 0 1 0 0] (msM R m) (.bool (p x)) (msM R m) 1) (hl : l.length ≤ 1073741824) :
    R.Mc 211 [.isl 3 (slc3 l), R.cl g [.loc 0 1 0 0]] (msM R m) (.bool (l.any p)) (msM R m) 1 :=
  h.o211.enterM 100 1 rfl rfl rfl fun X bb hfit hp => by
    repeat ((intro _u; clear _u); first | with_reducible first | refine cT ?_ | refine cF ?_ | refine cA ?_ | refine cB ?_ | refine aLn ?_ | refine cK ?_ | refine aS8 ?_ | refine wI ?_ | refine nD ?_ | refine aX rfl ?_ | refine vL rfl ?_)
    intro _u; clear _u
    refine cM false [0] (idx219_c h.n219 g l p m hc hl) ?_
    repeat ((intro _u; clear _u); first | refine eK ?_ | refine eP ?_)
    repeat ((intro _u; clear _u); first | with_reducible first | refine cT ?_ | refine cF ?_ | refine cA ?_ | refine cB ?_ | refine aLn ?_ | refine cK ?_ | refine aS8 ?_ | refine wI ?_ | refine nD ?_ | refine aX rfl ?_ | refine vL rfl ?_)
    intro _u; clear _u
    refine rM [0] ?_
    all_goals repeat' (first | exact True.intro | refine And.intro ?_ ?_ | (intro _u; clear _u) | (with_reducible first | refine eM ?_ ?_ | refine eF ?_ ?_ ?_ | refine eN ?_ | refine eL ?_ ?_ ?_ | refine eA ?_ ?_ | refine IWk.mk ⟨_, hp, rfl⟩ ?_ ?_) | refine IWk.mk ⟨_, hp, rfl⟩ ?_ ?_)
    all_goals first | with_reducible rfl | omega | exact Or.inl (by decide) | (simp; done) | rfl | skip
    exact fidx_ge

/-! ### The closures -/
theorem off_c {R : Env} (h : N206 R) (p : T3) : R.Pc 206 [.agg (t3 p)] (.bool (off3 p)) :=
  h.o206.enter 60 rfl fun X bb hfit hp => by
    unfold off3
    repeat ((intro _u; clear _u); first | with_reducible first | refine cT ?_ | refine cF ?_ | refine cA ?_ | refine cB ?_ | refine aLn ?_ | refine cK ?_ | refine aS8 ?_ | refine wI ?_ | refine nD ?_ | refine aX rfl ?_ | refine vL rfl ?_)
    intro _u; clear _u
    refine cS (fun h1 => ?_) (fun h1 => ?_)
    · repeat ((intro _u; clear _u); first | with_reducible first | refine cT ?_ | refine cF ?_ | refine cA ?_ | refine cB ?_ | refine aLn ?_ | refine cK ?_ | refine aS8 ?_ | refine wI ?_ | refine nD ?_ | refine aX rfl ?_ | refine vL rfl ?_)
      intro _u; clear _u
      refine rT ?_
      all_goals repeat' (first | exact True.intro | refine And.intro ?_ ?_ | (intro _u; clear _u) | (with_reducible first | refine eM ?_ ?_ | refine eF ?_ ?_ ?_ | refine eN ?_ | refine eL ?_ ?_ ?_ | refine eA ?_ ?_ | refine IWk.mk ⟨_, hp, rfl⟩ ?_ ?_) | refine IWk.mk ⟨_, hp, rfl⟩ ?_ ?_)
      all_goals first | with_reducible rfl | omega | exact Or.inl (by decide) | (simp; done) | rfl | skip
      simp; omega
    · repeat ((intro _u; clear _u); first | with_reducible first | refine cT ?_ | refine cF ?_ | refine cA ?_ | refine cB ?_ | refine aLn ?_ | refine cK ?_ | refine aS8 ?_ | refine wI ?_ | refine nD ?_ | refine aX rfl ?_ | refine vL rfl ?_)
      intro _u; clear _u
      refine rT ?_
      all_goals repeat' (first | exact True.intro | refine And.intro ?_ ?_ | (intro _u; clear _u) | (with_reducible first | refine eM ?_ ?_ | refine eF ?_ ?_ ?_ | refine eN ?_ | refine eL ?_ ?_ ?_ | refine eA ?_ ?_ | refine IWk.mk ⟨_, hp, rfl⟩ ?_ ?_) | refine IWk.mk ⟨_, hp, rfl⟩ ?_ ?_)
      all_goals first | with_reducible rfl | omega | exact Or.inl (by decide) | (simp; done) | rfl | skip
      rw [Bool.eq_iff_iff]; simp only [Bool.not_eq_true', decide_eq_true_eq, decide_eq_false_iff_not]; omega
theorem pair_c {R : Env} (h : N207 R) (p : Int × Int) : R.Pc 207 [.agg (p2 p)] (.bool (bad2 p)) :=
  h.o207.enter 60 rfl fun X bb hfit hp => by
    unfold bad2
    repeat ((intro _u; clear _u); first | with_reducible first | refine cT ?_ | refine cF ?_ | refine cA ?_ | refine cB ?_ | refine aLn ?_ | refine cK ?_ | refine aS8 ?_ | refine wI ?_ | refine nD ?_ | refine aX rfl ?_ | refine vL rfl ?_)
    intro _u; clear _u
    refine cS (fun h1 => ?_) (fun h1 => ?_)
    · repeat ((intro _u; clear _u); first | with_reducible first | refine cT ?_ | refine cF ?_ | refine cA ?_ | refine cB ?_ | refine aLn ?_ | refine cK ?_ | refine aS8 ?_ | refine wI ?_ | refine nD ?_ | refine aX rfl ?_ | refine vL rfl ?_)
      intro _u; clear _u
      refine rT ?_
      all_goals repeat' (first | exact True.intro | refine And.intro ?_ ?_ | (intro _u; clear _u) | (with_reducible first | refine eM ?_ ?_ | refine eF ?_ ?_ ?_ | refine eN ?_ | refine eL ?_ ?_ ?_ | refine eA ?_ ?_ | refine IWk.mk ⟨_, hp, rfl⟩ ?_ ?_) | refine IWk.mk ⟨_, hp, rfl⟩ ?_ ?_)
      all_goals first | with_reducible rfl | omega | exact Or.inl (by decide) | (simp; done) | rfl | skip
      simp; omega
    · repeat ((intro _u; clear _u); first | with_reducible first | refine cT ?_ | refine cF ?_ | refine cA ?_ | refine cB ?_ | refine aLn ?_ | refine cK ?_ | refine aS8 ?_ | refine wI ?_ | refine nD ?_ | refine aX rfl ?_ | refine vL rfl ?_)
      intro _u; clear _u
      refine rT ?_
      all_goals repeat' (first | exact True.intro | refine And.intro ?_ ?_ | (intro _u; clear _u) | (with_reducible first | refine eM ?_ ?_ | refine eF ?_ ?_ ?_ | refine eN ?_ | refine eL ?_ ?_ ?_ | refine eA ?_ ?_ | refine IWk.mk ⟨_, hp, rfl⟩ ?_ ?_) | refine IWk.mk ⟨_, hp, rfl⟩ ?_ ?_)
      all_goals first | with_reducible rfl | omega | exact Or.inl (by decide) | (simp; done) | rfl | skip
      rw [Bool.eq_iff_iff]; simp only [Bool.not_eq_true', decide_eq_true_eq, decide_eq_false_iff_not]; omega
theorem tri_c {R : Env} (h : N208 R) (m : Ms) (p : T3) : R.Mc 208 [.agg (t3 p), .loc 0 1 0 0] (msM R m) (.bool (badT m.v.length p)) (msM R m) 1 :=
  h.o208.enterM 60 1 rfl rfl rfl fun X bb hfit hp => by
    unfold badT
    repeat ((intro _u; clear _u); first | with_reducible first | refine cT ?_ | refine cF ?_ | refine cA ?_ | refine cB ?_ | refine aLn ?_ | refine cK ?_ | refine aS8 ?_ | refine wI ?_ | refine nD ?_ | refine aX rfl ?_ | refine vL rfl ?_)
    intro _u; clear _u
    refine cS (fun h1 => ?_) (fun h1 => ?_)
    · repeat ((intro _u; clear _u); first | with_reducible first | refine cT ?_ | refine cF ?_ | refine cA ?_ | refine cB ?_ | refine aLn ?_ | refine cK ?_ | refine aS8 ?_ | refine wI ?_ | refine nD ?_ | refine aX rfl ?_ | refine vL rfl ?_)
      intro _u; clear _u
      refine rM [0] ?_
      all_goals repeat' (first | exact True.intro | refine And.intro ?_ ?_ | (intro _u; clear _u) | (with_reducible first | refine eM ?_ ?_ | refine eF ?_ ?_ ?_ | refine eN ?_ | refine eL ?_ ?_ ?_ | refine eA ?_ ?_ | refine IWk.mk ⟨_, hp, rfl⟩ ?_ ?_) | refine IWk.mk ⟨_, hp, rfl⟩ ?_ ?_)
      all_goals first | with_reducible rfl | omega | exact Or.inl (by decide) | (simp; done) | rfl | skip
      simp; omega
    · repeat ((intro _u; clear _u); first | with_reducible first | refine cT ?_ | refine cF ?_ | refine cA ?_ | refine cB ?_ | refine aLn ?_ | refine cK ?_ | refine aS8 ?_ | refine wI ?_ | refine nD ?_ | refine aX rfl ?_ | refine vL rfl ?_)
      intro _u; clear _u
      refine cS (fun h2 => ?_) (fun h2 => ?_)
      · repeat ((intro _u; clear _u); first | with_reducible first | refine cT ?_ | refine cF ?_ | refine cA ?_ | refine cB ?_ | refine aLn ?_ | refine cK ?_ | refine aS8 ?_ | refine wI ?_ | refine nD ?_ | refine aX rfl ?_ | refine vL rfl ?_)
        intro _u; clear _u
        refine rM [0] ?_
        all_goals repeat' (first | exact True.intro | refine And.intro ?_ ?_ | (intro _u; clear _u) | (with_reducible first | refine eM ?_ ?_ | refine eF ?_ ?_ ?_ | refine eN ?_ | refine eL ?_ ?_ ?_ | refine eA ?_ ?_ | refine IWk.mk ⟨_, hp, rfl⟩ ?_ ?_) | refine IWk.mk ⟨_, hp, rfl⟩ ?_ ?_)
        all_goals first | with_reducible rfl | omega | exact Or.inl (by decide) | (simp; done) | rfl | skip
        simp; omega
      · repeat ((intro _u; clear _u); first | with_reducible first | refine cT ?_ | refine cF ?_ | refine cA ?_ | refine cB ?_ | refine aLn ?_ | refine cK ?_ | refine aS8 ?_ | refine wI ?_ | refine nD ?_ | refine aX rfl ?_ | refine vL rfl ?_)
        intro _u; clear _u
        refine cS (fun h3 => ?_) (fun h3 => ?_)
        · repeat ((intro _u; clear _u); first | with_reducible first | refine cT ?_ | refine cF ?_ | refine cA ?_ | refine cB ?_ | refine aLn ?_ | refine cK ?_ | refine aS8 ?_ | refine wI ?_ | refine nD ?_ | refine aX rfl ?_ | refine vL rfl ?_)
          intro _u; clear _u
          refine rM [0] ?_
          all_goals repeat' (first | exact True.intro | refine And.intro ?_ ?_ | (intro _u; clear _u) | (with_reducible first | refine eM ?_ ?_ | refine eF ?_ ?_ ?_ | refine eN ?_ | refine eL ?_ ?_ ?_ | refine eA ?_ ?_ | refine IWk.mk ⟨_, hp, rfl⟩ ?_ ?_) | refine IWk.mk ⟨_, hp, rfl⟩ ?_ ?_)
          all_goals first | with_reducible rfl | omega | exact Or.inl (by decide) | (simp; done) | rfl | skip
          simp; omega
        · repeat ((intro _u; clear _u); first | with_reducible first | refine cT ?_ | refine cF ?_ | refine cA ?_ | refine cB ?_ | refine aLn ?_ | refine cK ?_ | refine aS8 ?_ | refine wI ?_ | refine nD ?_ | refine aX rfl ?_ | refine vL rfl ?_)
          intro _u; clear _u
          refine cS (fun h4 => ?_) (fun h4 => ?_)
          · repeat ((intro _u; clear _u); first | with_reducible first | refine cT ?_ | refine cF ?_ | refine cA ?_ | refine cB ?_ | refine aLn ?_ | refine cK ?_ | refine aS8 ?_ | refine wI ?_ | refine nD ?_ | refine aX rfl ?_ | refine vL rfl ?_)
            intro _u; clear _u
            refine rM [0] ?_
            all_goals repeat' (first | exact True.intro | refine And.intro ?_ ?_ | (intro _u; clear _u) | (with_reducible first | refine eM ?_ ?_ | refine eF ?_ ?_ ?_ | refine eN ?_ | refine eL ?_ ?_ ?_ | refine eA ?_ ?_ | refine IWk.mk ⟨_, hp, rfl⟩ ?_ ?_) | refine IWk.mk ⟨_, hp, rfl⟩ ?_ ?_)
            all_goals first | with_reducible rfl | omega | exact Or.inl (by decide) | (simp; done) | rfl | skip
            simp; omega
          · repeat ((intro _u; clear _u); first | with_reducible first | refine cT ?_ | refine cF ?_ | refine cA ?_ | refine cB ?_ | refine aLn ?_ | refine cK ?_ | refine aS8 ?_ | refine wI ?_ | refine nD ?_ | refine aX rfl ?_ | refine vL rfl ?_)
            intro _u; clear _u
            refine rM [0] ?_
            all_goals repeat' (first | exact True.intro | refine And.intro ?_ ?_ | (intro _u; clear _u) | (with_reducible first | refine eM ?_ ?_ | refine eF ?_ ?_ ?_ | refine eN ?_ | refine eL ?_ ?_ ?_ | refine eA ?_ ?_ | refine IWk.mk ⟨_, hp, rfl⟩ ?_ ?_) | refine IWk.mk ⟨_, hp, rfl⟩ ?_ ?_)
            all_goals first | with_reducible rfl | omega | exact Or.inl (by decide) | (simp; done) | rfl | skip
            rw [Bool.eq_iff_iff]; simp only [Bool.not_eq_true', decide_eq_true_eq, decide_eq_false_iff_not, beq_iff_eq]; omega

theorem mcheck_c {R : Env} (h : N193 R) (m : Ms) : R.Pc 193 [.agg m.row] (.int .i64 (mchk m)) :=
  h.o193.enter 100 rfl fun X bb hfit hp => by
    unfold mchk
    repeat ((intro _u; clear _u); first | with_reducible first | refine cT ?_ | refine cF ?_ | refine cA ?_ | refine cB ?_ | refine aLn ?_ | refine cK ?_ | refine aS8 ?_ | refine wI ?_ | refine nD ?_ | refine aX rfl ?_ | refine vL rfl ?_)
    intro _u; clear _u
    refine cS (fun h1 => ?_) (fun h1 => ?_)
    · rw [if_pos (.inl (by omega))]
      repeat ((intro _u; clear _u); first | with_reducible first | refine cT ?_ | refine cF ?_ | refine cA ?_ | refine cB ?_ | refine aLn ?_ | refine cK ?_ | refine aS8 ?_ | refine wI ?_ | refine nD ?_ | refine aX rfl ?_ | refine vL rfl ?_)
      intro _u; clear _u
      exact rT
    · repeat ((intro _u; clear _u); first | with_reducible first | refine cT ?_ | refine cF ?_ | refine cA ?_ | refine cB ?_ | refine aLn ?_ | refine cK ?_ | refine aS8 ?_ | refine wI ?_ | refine nD ?_ | refine aX rfl ?_ | refine vL rfl ?_)
      intro _u; clear _u
      refine cS (fun h2 => ?_) (fun h2 => ?_)
      · rw [if_pos (.inr (by omega))]
        repeat ((intro _u; clear _u); first | with_reducible first | refine cT ?_ | refine cF ?_ | refine cA ?_ | refine cB ?_ | refine aLn ?_ | refine cK ?_ | refine aS8 ?_ | refine wI ?_ | refine nD ?_ | refine aX rfl ?_ | refine vL rfl ?_)
        intro _u; clear _u
        exact rT
      · rw [if_neg (by omega)]
        repeat ((intro _u; clear _u); first | with_reducible first | refine cT ?_ | refine cF ?_ | refine cA ?_ | refine cB ?_ | refine aLn ?_ | refine cK ?_ | refine aS8 ?_ | refine wI ?_ | refine nD ?_ | refine aX rfl ?_ | refine vL rfl ?_)
        intro _u; clear _u
        refine cS (fun h3 => ?_) (fun h3 => ?_)
        · rw [if_pos (.inl (by omega))]
          repeat ((intro _u; clear _u); first | with_reducible first | refine cT ?_ | refine cF ?_ | refine cA ?_ | refine cB ?_ | refine aLn ?_ | refine cK ?_ | refine aS8 ?_ | refine wI ?_ | refine nD ?_ | refine aX rfl ?_ | refine vL rfl ?_)
          intro _u; clear _u
          exact rT
        · repeat ((intro _u; clear _u); first | with_reducible first | refine cT ?_ | refine cF ?_ | refine cA ?_ | refine cB ?_ | refine aLn ?_ | refine cK ?_ | refine aS8 ?_ | refine wI ?_ | refine nD ?_ | refine aX rfl ?_ | refine vL rfl ?_)
          intro _u; clear _u
          refine cS (fun h4 => ?_) (fun h4 => ?_)
          · rw [if_pos (.inr (.inl (by omega)))]
            repeat ((intro _u; clear _u); first | with_reducible first | refine cT ?_ | refine cF ?_ | refine cA ?_ | refine cB ?_ | refine aLn ?_ | refine cK ?_ | refine aS8 ?_ | refine wI ?_ | refine nD ?_ | refine aX rfl ?_ | refine vL rfl ?_)
            intro _u; clear _u
            exact rT
          · repeat ((intro _u; clear _u); first | with_reducible first | refine cT ?_ | refine cF ?_ | refine cA ?_ | refine cB ?_ | refine aLn ?_ | refine cK ?_ | refine aS8 ?_ | refine wI ?_ | refine nD ?_ | refine aX rfl ?_ | refine vL rfl ?_)
            intro _u; clear _u
            refine cS (fun h5 => ?_) (fun h5 => ?_)
            · rw [if_pos (.inr (.inr (by omega)))]
              repeat ((intro _u; clear _u); first | with_reducible first | refine cT ?_ | refine cF ?_ | refine cA ?_ | refine cB ?_ | refine aLn ?_ | refine cK ?_ | refine aS8 ?_ | refine wI ?_ | refine nD ?_ | refine aX rfl ?_ | refine vL rfl ?_)
              intro _u; clear _u
              exact rT
            · rw [if_neg (by omega)]
              repeat ((intro _u; clear _u); first | with_reducible first | refine cT ?_ | refine cF ?_ | refine cA ?_ | refine cB ?_ | refine aLn ?_ | refine cK ?_ | refine aS8 ?_ | refine wI ?_ | refine nD ?_ | refine aX rfl ?_ | refine vL rfl ?_)
              intro _u; clear _u
              refine ICall.pure h.n209.o209.hb (cont209_c h.n209 206 h.n206.o206.hb m.v off3 (fun x _ => off_c h.n206 x) (by omega)) rfl ?_
              repeat ((intro _u; clear _u); first | with_reducible first | refine cT ?_ | refine cF ?_ | refine cA ?_ | refine cB ?_ | refine aLn ?_ | refine cK ?_ | refine aS8 ?_ | refine wI ?_ | refine nD ?_ | refine aX rfl ?_ | refine vL rfl ?_)
              intro _u; clear _u
              refine cS (fun h6 => ?_) (fun h6 => ?_)
              · rw [if_pos h6]
                repeat ((intro _u; clear _u); first | with_reducible first | refine cT ?_ | refine cF ?_ | refine cA ?_ | refine cB ?_ | refine aLn ?_ | refine cK ?_ | refine aS8 ?_ | refine wI ?_ | refine nD ?_ | refine aX rfl ?_ | refine vL rfl ?_)
                intro _u; clear _u
                exact rT
              · rw [if_neg (by rw [h6]; decide)]
                repeat ((intro _u; clear _u); first | with_reducible first | refine cT ?_ | refine cF ?_ | refine cA ?_ | refine cB ?_ | refine aLn ?_ | refine cK ?_ | refine aS8 ?_ | refine wI ?_ | refine nD ?_ | refine aX rfl ?_ | refine vL rfl ?_)
                intro _u; clear _u
                refine ICall.pure h.n210.o210.hb (cont210_c h.n210 207 h.n207.o207.hb m.uv bad2 (fun x _ => pair_c h.n207 x) (by omega)) rfl ?_
                repeat ((intro _u; clear _u); first | with_reducible first | refine cT ?_ | refine cF ?_ | refine cA ?_ | refine cB ?_ | refine aLn ?_ | refine cK ?_ | refine aS8 ?_ | refine wI ?_ | refine nD ?_ | refine aX rfl ?_ | refine vL rfl ?_)
                intro _u; clear _u
                refine cS (fun h7 => ?_) (fun h7 => ?_)
                · rw [if_pos (.inl h7)]
                  repeat ((intro _u; clear _u); first | with_reducible first | refine cT ?_ | refine cF ?_ | refine cA ?_ | refine cB ?_ | refine aLn ?_ | refine cK ?_ | refine aS8 ?_ | refine wI ?_ | refine nD ?_ | refine aX rfl ?_ | refine vL rfl ?_)
                  intro _u; clear _u
                  exact rT
                · repeat ((intro _u; clear _u); first | with_reducible first | refine cT ?_ | refine cF ?_ | refine cA ?_ | refine cB ?_ | refine aLn ?_ | refine cK ?_ | refine aS8 ?_ | refine wI ?_ | refine nD ?_ | refine aX rfl ?_ | refine vL rfl ?_)
                  intro _u; clear _u
                  refine cM false [0] (cont211_c h.n211 208 m.t (badT m.v.length) m (fun x _ => tri_c h.n208 m x) (by omega)) ?_
                  repeat ((intro _u; clear _u); first | refine eK ?_ | refine eP ?_)
                  repeat ((intro _u; clear _u); first | with_reducible first | refine cT ?_ | refine cF ?_ | refine cA ?_ | refine cB ?_ | refine aLn ?_ | refine cK ?_ | refine aS8 ?_ | refine wI ?_ | refine nD ?_ | refine aX rfl ?_ | refine vL rfl ?_)
                  intro _u; clear _u
                  refine cS (fun h8 => ?_) (fun h8 => ?_)
                  · rw [if_pos (.inr h8)]
                    repeat ((intro _u; clear _u); first | with_reducible first | refine cT ?_ | refine cF ?_ | refine cA ?_ | refine cB ?_ | refine aLn ?_ | refine cK ?_ | refine aS8 ?_ | refine wI ?_ | refine nD ?_ | refine aX rfl ?_ | refine vL rfl ?_)
                    intro _u; clear _u
                    exact rT
                  · rw [if_neg (by rw [h7, h8]; decide)]
                    repeat ((intro _u; clear _u); first | with_reducible first | refine cT ?_ | refine cF ?_ | refine cA ?_ | refine cB ?_ | refine aLn ?_ | refine cK ?_ | refine aS8 ?_ | refine wI ?_ | refine nD ?_ | refine aX rfl ?_ | refine vL rfl ?_)
                    intro _u; clear _u
                    exact rT
end Go.UM

/- Package codec: what each function hands back. -/


namespace Go.UM
open Go.AM
set_option maxRecDepth 4000

theorem clone8_c {R : Env} (h : N62 R) (l : List UInt8) (hl : l.length ≤ 1073741824) :
    R.Mc 62 [.isl 1 (slc8 l)] [] (.osl 0 l.length) [(0, .arr (R.ty 4) 1 (slc8 l))] 1 :=
  h.o62.enterM 60 0 rfl rfl rfl fun X b hfit hp => by
    repeat ((intro _u; clear _u); first | with_reducible first | refine cT ?_ | refine cF ?_ | refine cA ?_ | refine cB ?_ | refine aLn ?_ | refine cK ?_ | refine aS8 ?_ | refine wI ?_ | refine nD ?_ | refine aX rfl ?_ | refine vL rfl ?_)
    intro _u; clear _u
    refine ANil.mk (fun hn => ?_) ?_
    · have : l = [] := by simpa [slc8] using hn
      subst this
      repeat ((intro _u; clear _u); first | with_reducible first | refine cT ?_ | refine cF ?_ | refine cA ?_ | refine cB ?_ | refine aLn ?_ | refine cK ?_ | refine aS8 ?_ | refine wI ?_ | refine nD ?_ | refine aX rfl ?_ | refine vL rfl ?_)
      intro _u; clear _u
      exact rM [50]
    · repeat ((intro _u; clear _u); first | with_reducible first | refine cT ?_ | refine cF ?_ | refine cA ?_ | refine cB ?_ | refine aLn ?_ | refine cK ?_ | refine aS8 ?_ | refine wI ?_ | refine nD ?_ | refine aX rfl ?_ | refine vL rfl ?_)
      intro _u; clear _u
      exact rM [0]

/-- A number's bytes, and whether they hold it. -/
def enc (w : Nat) (x : Int) : List UInt8 := (List.range w).map fun i => u8 (x / 256 ^ i)
def puts (b : List UInt8) (w : Int) (n : List Int) : List UInt8 × Int :=
  if w < 1 ∨ 8 < w then ([], 2) else if n.any (fun x => decide (256 ^ w.toNat ≤ x)) = true then ([], 3) else (b ++ n.flatMap (enc w.toNat), 0)

theorem flatMap_len (w : Nat) : ∀ l : List Int, (l.flatMap (enc w)).length = w * l.length
  | [] => by simp
  | x :: r => by simp [flatMap_len w r, enc, Nat.mul_add]; omega

theorem put_room {b : List UInt8} {n : List Int} {w : Int} {k : Nat} {i : Nat} {x : Int} (hl : b.length + 8 * n.length ≤ 1073741824) (hw : w ≤ 8) (hw1 : 1 ≤ w) (hk : (k : Int) < n.length) (hi : (i : Int) < w) : (b ++ (n.take k).flatMap (enc w.toNat) ++ enc i x).length + 1 ≤ 1073741824 := by
  have h1 : w.toNat * (n.take k).length ≤ 8 * k := Nat.mul_le_mul (by omega) (by simp; omega)
  simp only [List.length_append, flatMap_len]
  have : (enc i x).length = i := by simp [enc]
  omega

theorem enc_succ (i : Nat) (x : Int) : enc (i + 1) x = enc i x ++ [u8 (x / 256 ^ i)] := by simp [enc, List.range_succ]
@[simp] theorem enc_zero (x : Int) : enc 0 x = [] := rfl
@[simp] theorem enc_length (w : Nat) (x : Int) : (enc w x).length = w := by simp [enc]

theorem shr_enc {x : Int} {i : Nat} (hx : 0 ≤ x) (hi : i < 8) : shrI .u64 x (8 * (i : Int)) = x / 256 ^ i := by
  rw [shr_eq hx]
  have h : (8 * (i : Int)).toNat = 8 * i := by omega
  rw [h, show min (8 * i) (IntKind.bits .u64) = 8 * i by simp [IntKind.bits]; omega, Int.pow_mul]
  rfl

theorem shr_big {x w : Int} (hx : 0 ≤ x) (h1 : 1 ≤ w) (h8 : w < 8) : 0 < shrI .u64 x (8 * w) ↔ 256 ^ w.toNat ≤ x := by
  obtain ⟨i, rfl⟩ : ∃ i : Nat, w = i := ⟨w.toNat, by omega⟩
  rw [shr_enc hx (by omega), Int.toNat_natCast]
  have hp : (0 : Int) < 256 ^ i := Int.pow_pos (by decide)
  constructor
  · intro h
    have := (Int.le_ediv_iff_mul_le hp).1 (show 1 ≤ x / 256 ^ i from h)
    rwa [Int.one_mul] at this
  · intro h
    show 1 ≤ x / 256 ^ i
    exact (Int.le_ediv_iff_mul_le hp).2 (by rw [Int.one_mul]; exact h)

theorem any_take_succ {n : List Int} {k : Nat} {x : Int} {p : Int → Bool} (h : n[k]? = some x) : (n.take (k + 1)).any p = ((n.take k).any p || p x) := by
  rw [take_succ_get h]; simp

theorem puts_bad {b : List UInt8} {w : Int} {n : List Int} {x : Int} (h1 : 1 ≤ w) (h2 : w ≤ 8) (hx : x ∈ n) (h : 256 ^ w.toNat ≤ x) : puts b w n = ([], 3) := by
  unfold puts
  rw [if_neg (by omega), if_pos]
  simp only [List.any_eq_true, decide_eq_true_eq]
  exact ⟨x, hx, h⟩
theorem puts_ok {b : List UInt8} {w : Int} {n : List Int} (h1 : 1 ≤ w) (h2 : w ≤ 8) (h : n.any (fun x => decide (256 ^ w.toNat ≤ x)) = false) : puts b w n = (b ++ n.flatMap (enc w.toNat), 0) := by
  unfold puts
  rw [if_neg (by omega), if_neg (by rw [h]; decide)]


theorem put_c {R : Env} (h : N54 R) (b : List UInt8) (w : Int) (n : List Int) (hl : b.length + 8 * n.length ≤ 1073741824) (hn : ∀ x ∈ n, 0 ≤ x ∧ x ≤ 18446744073709551615) :
    R.Mc 54 [.isl 1 (slc8 b), .int .i64 w, .isl 1 (slcK .u64 n)] [] (.tup [.osl 0 (puts b w n).1.length, .int .i64 (puts b w n).2]) [(0, .arr (R.ty 4) 1 (slc8 (puts b w n).1))] 1 :=
  h.o54.enterM 100 0 rfl rfl rfl fun X bb hfit hp => by
    generalize hq : puts b w n = q
    repeat ((intro _u; clear _u); first | with_reducible first | refine cT ?_ | refine cF ?_ | refine cA ?_ | refine cB ?_ | refine aLn ?_ | refine cK ?_ | refine aS8 ?_ | refine wI ?_ | refine nD ?_ | refine aX rfl ?_ | refine vL rfl ?_)
    intro _u; clear _u
    refine cS (fun h1 => ?_) (fun h1 => ?_)
    · rw [puts, if_pos (.inl h1)] at hq
      subst hq
      repeat ((intro _u; clear _u); first | with_reducible first | refine cT ?_ | refine cF ?_ | refine cA ?_ | refine cB ?_ | refine aLn ?_ | refine cK ?_ | refine aS8 ?_ | refine wI ?_ | refine nD ?_ | refine aX rfl ?_ | refine vL rfl ?_)
      intro _u; clear _u
      exact rM [50]
    · repeat ((intro _u; clear _u); first | with_reducible first | refine cT ?_ | refine cF ?_ | refine cA ?_ | refine cB ?_ | refine aLn ?_ | refine cK ?_ | refine aS8 ?_ | refine wI ?_ | refine nD ?_ | refine aX rfl ?_ | refine vL rfl ?_)
      intro _u; clear _u
      refine cS (fun h2 => ?_) (fun h2 => ?_)
      · rw [puts, if_pos (.inr h2)] at hq
        subst hq
        repeat ((intro _u; clear _u); first | with_reducible first | refine cT ?_ | refine cF ?_ | refine cA ?_ | refine cB ?_ | refine aLn ?_ | refine cK ?_ | refine aS8 ?_ | refine wI ?_ | refine nD ?_ | refine aX rfl ?_ | refine vL rfl ?_)
        intro _u; clear _u
        exact rM [50]
      · repeat ((intro _u; clear _u); first | with_reducible first | refine cT ?_ | refine cF ?_ | refine cA ?_ | refine cB ?_ | refine aLn ?_ | refine cK ?_ | refine aS8 ?_ | refine wI ?_ | refine nD ?_ | refine aX rfl ?_ | refine vL rfl ?_)
        intro _u; clear _u
        refine cM false [] (clone8_c h.n62 b (by omega)) ?_
        repeat ((intro _u; clear _u); first | refine eK ?_ | refine eP ?_)
        repeat ((intro _u; clear _u); first | with_reducible first | refine cT ?_ | refine cF ?_ | refine cA ?_ | refine cB ?_ | refine aLn ?_ | refine cK ?_ | refine aS8 ?_ | refine wI ?_ | refine nD ?_ | refine aX rfl ?_ | refine vL rfl ?_)
        intro _u; clear _u
        refine lPa 100 (fun k : Nat => k ≤ n.length ∧ (n.take k).any (fun x => decide (256 ^ w.toNat ≤ x)) = false) (fun k => ⟨[(1, .int .i64 w), (8, .osl 0 (b ++ (n.take k).flatMap (enc w.toNat)).length), (20, .isl 1 (slcK .u64 n)), (21, .int .i64 n.length), (22, .int .i64 k)], [(0, .arr (R.ty 4) 1 (slc8 (b ++ (n.take k).flatMap (enc w.toNat))))], 1⟩) (fun k => n.length - k) (0) ?_ ?_
        · exact ⟨Nat.zero_le _, by simp⟩
        · intro k hk
          dsimp only
          repeat ((intro _u; clear _u); first | with_reducible first | refine cT ?_ | refine cF ?_ | refine cA ?_ | refine cB ?_ | refine aLn ?_ | refine cK ?_ | refine aS8 ?_ | refine wI ?_ | refine nD ?_ | refine aX rfl ?_ | refine vL rfl ?_)
          intro _u; clear _u
          refine cS (fun h3 => ?_) (fun h3 => ?_)
          · obtain ⟨x, hx⟩ : ∃ u_, n[k]? = some u_ := ⟨_, List.getElem?_eq_getElem (by first | omega | (simp <;> omega))⟩
            repeat ((intro _u; clear _u); first | with_reducible first | refine cT ?_ | refine cF ?_ | refine cA ?_ | refine cB ?_ | refine aLn ?_ | refine cK ?_ | refine aS8 ?_ | refine wI ?_ | refine nD ?_ | refine aX rfl ?_ | refine vL rfl ?_)
            intro _u; clear _u
            refine eget_map hx ?_
            have hxk := hx
            have hx := hn x (List.mem_of_getElem? hxk)
            repeat ((intro _u; clear _u); first | with_reducible first | refine cT ?_ | refine cF ?_ | refine cA ?_ | refine cB ?_ | refine aLn ?_ | refine cK ?_ | refine aS8 ?_ | refine wI ?_ | refine nD ?_ | refine aX rfl ?_ | refine vL rfl ?_)
            intro _u; clear _u
            refine cS (fun h4 => ?_) (fun h4 => ?_)
            · repeat ((intro _u; clear _u); first | with_reducible first | refine cT ?_ | refine cF ?_ | refine cA ?_ | refine cB ?_ | refine aLn ?_ | refine cK ?_ | refine aS8 ?_ | refine wI ?_ | refine nD ?_ | refine aX rfl ?_ | refine vL rfl ?_)
              intro _u; clear _u
              refine cS (fun h5 => ?_) (fun h5 => ?_)
              · rw [puts_bad (by omega) (by omega) (List.mem_of_getElem? hxk) ((shr_big hx.1 (by omega) h4).1 h5)] at hq
                subst hq
                repeat ((intro _u; clear _u); first | with_reducible first | refine cT ?_ | refine cF ?_ | refine cA ?_ | refine cB ?_ | refine aLn ?_ | refine cK ?_ | refine aS8 ?_ | refine wI ?_ | refine nD ?_ | refine aX rfl ?_ | refine vL rfl ?_)
                intro _u; clear _u
                exact rM [50]
              · have hnb : ¬ 256 ^ w.toNat ≤ x := fun hb => absurd ((shr_big hx.1 (by omega) h4).2 hb) (by omega)
                repeat ((intro _u; clear _u); first | with_reducible first | refine cT ?_ | refine cF ?_ | refine cA ?_ | refine cB ?_ | refine aLn ?_ | refine cK ?_ | refine aS8 ?_ | refine wI ?_ | refine nD ?_ | refine aX rfl ?_ | refine vL rfl ?_)
                intro _u; clear _u
                refine lPa 100 (fun i : Nat => (i : Int) ≤ w) (fun i => ⟨[(1, .int .i64 w), (8, .osl 0 (b ++ (n.take k).flatMap (enc w.toNat) ++ enc i x).length), (10, .int .u64 x), (20, .isl 1 (slcK .u64 n)), (21, .int .i64 n.length), (22, .int .i64 k), (35, .int .i64 w), (36, .int .i64 i)], [(0, .arr (R.ty 4) 1 (slc8 (b ++ (n.take k).flatMap (enc w.toNat) ++ enc i x)))], 1⟩) (fun i => w.toNat - i) (0) ?_ ?_
                · show (0 : Int) ≤ w
                  omega
                · intro i hi
                  dsimp only
                  repeat ((intro _u; clear _u); first | with_reducible first | refine cT ?_ | refine cF ?_ | refine cA ?_ | refine cB ?_ | refine aLn ?_ | refine cK ?_ | refine aS8 ?_ | refine wI ?_ | refine nD ?_ | refine aX rfl ?_ | refine vL rfl ?_)
                  intro _u; clear _u
                  refine cS (fun h6 => ?_) (fun h6 => ?_)
                  · repeat ((intro _u; clear _u); first | with_reducible first | refine cT ?_ | refine cF ?_ | refine cA ?_ | refine cB ?_ | refine aLn ?_ | refine cK ?_ | refine aS8 ?_ | refine wI ?_ | refine nD ?_ | refine aX rfl ?_ | refine vL rfl ?_)
                    intro _u; clear _u
                    rw [shr_enc hx.1 (by omega)]
                    refine iwr_any ?_
                    repeat ((intro _u; clear _u); first | with_reducible first | refine cT ?_ | refine cF ?_ | refine cA ?_ | refine cB ?_ | refine aLn ?_ | refine cK ?_ | refine aS8 ?_ | refine wI ?_ | refine nD ?_ | refine aX rfl ?_ | refine vL rfl ?_)
                    intro _u; clear _u
                    refine ⟨by rw [slc8_length]; exact put_room hl h2 h1 h3 h6, ?_⟩
                    repeat ((intro _u; clear _u); first | with_reducible first | refine cT ?_ | refine cF ?_ | refine cA ?_ | refine cB ?_ | refine aLn ?_ | refine cK ?_ | refine aS8 ?_ | refine wI ?_ | refine nD ?_ | refine aX rfl ?_ | refine vL rfl ?_)
                    intro _u; clear _u
                    refine nX (i + 1) ?_ ?_ ⟨_, hp, rfl⟩ ?_ ?_
                    · omega
                    · omega
                    · all_goals repeat' (first | exact True.intro | refine And.intro ?_ ?_ | (intro _u; clear _u) | (with_reducible first | refine eM ?_ ?_ | refine eF ?_ ?_ ?_ | refine eN ?_ | refine eL ?_ ?_ ?_ | refine eA ?_ ?_ | refine IWk.mk ⟨_, hp, rfl⟩ ?_ ?_) | refine IWk.mk ⟨_, hp, rfl⟩ ?_ ?_)
                      all_goals first | with_reducible rfl | omega | exact Or.inl (by decide) | (simp; done) | rfl | skip
                    · all_goals repeat' (first | exact True.intro | refine And.intro ?_ ?_ | (intro _u; clear _u) | (with_reducible first | refine eM ?_ ?_ | refine eF ?_ ?_ ?_ | refine eN ?_ | refine eL ?_ ?_ ?_ | refine eA ?_ ?_ | refine IWk.mk ⟨_, hp, rfl⟩ ?_ ?_) | refine IWk.mk ⟨_, hp, rfl⟩ ?_ ?_)
                      all_goals first | with_reducible rfl | omega | exact Or.inl (by decide) | (simp; done) | rfl | skip
                      simp [enc_succ]
                  · repeat ((intro _u; clear _u); first | with_reducible first | refine cT ?_ | refine cF ?_ | refine cA ?_ | refine cB ?_ | refine aLn ?_ | refine cK ?_ | refine aS8 ?_ | refine wI ?_ | refine nD ?_ | refine aX rfl ?_ | refine vL rfl ?_)
                    intro _u; clear _u
                    refine nX (k + 1) ?_ ?_ ⟨_, hp, rfl⟩ ?_ ?_
                    · refine ⟨by omega, ?_⟩
                      rw [any_take_succ hxk, hk.2, decide_eq_false hnb]; rfl
                    · omega
                    · all_goals repeat' (first | exact True.intro | refine And.intro ?_ ?_ | (intro _u; clear _u) | (with_reducible first | refine eM ?_ ?_ | refine eF ?_ ?_ ?_ | refine eN ?_ | refine eL ?_ ?_ ?_ | refine eA ?_ ?_ | refine IWk.mk ⟨_, hp, rfl⟩ ?_ ?_) | refine IWk.mk ⟨_, hp, rfl⟩ ?_ ?_)
                      all_goals first | with_reducible rfl | omega | exact Or.inl (by decide) | (simp; done) | rfl | skip
                      rw [take_succ_get hxk, show i = w.toNat by omega]; simp
                    · all_goals repeat' (first | exact True.intro | refine And.intro ?_ ?_ | (intro _u; clear _u) | (with_reducible first | refine eM ?_ ?_ | refine eF ?_ ?_ ?_ | refine eN ?_ | refine eL ?_ ?_ ?_ | refine eA ?_ ?_ | refine IWk.mk ⟨_, hp, rfl⟩ ?_ ?_) | refine IWk.mk ⟨_, hp, rfl⟩ ?_ ?_)
                      all_goals first | with_reducible rfl | omega | exact Or.inl (by decide) | (simp; done) | rfl | skip
                      rw [take_succ_get hxk, show i = w.toNat by omega]; simp
            · have hnb : ¬ 256 ^ w.toNat ≤ x := by rw [show w.toNat = 8 by omega]; omega
              repeat ((intro _u; clear _u); first | with_reducible first | refine cT ?_ | refine cF ?_ | refine cA ?_ | refine cB ?_ | refine aLn ?_ | refine cK ?_ | refine aS8 ?_ | refine wI ?_ | refine nD ?_ | refine aX rfl ?_ | refine vL rfl ?_)
              intro _u; clear _u
              refine lPa 100 (fun i : Nat => (i : Int) ≤ w) (fun i => ⟨[(1, .int .i64 w), (8, .osl 0 (b ++ (n.take k).flatMap (enc w.toNat) ++ enc i x).length), (10, .int .u64 x), (20, .isl 1 (slcK .u64 n)), (21, .int .i64 n.length), (22, .int .i64 k), (35, .int .i64 w), (36, .int .i64 i)], [(0, .arr (R.ty 4) 1 (slc8 (b ++ (n.take k).flatMap (enc w.toNat) ++ enc i x)))], 1⟩) (fun i => w.toNat - i) (0) ?_ ?_
              · show (0 : Int) ≤ w
                omega
              · intro i hi
                dsimp only
                repeat ((intro _u; clear _u); first | with_reducible first | refine cT ?_ | refine cF ?_ | refine cA ?_ | refine cB ?_ | refine aLn ?_ | refine cK ?_ | refine aS8 ?_ | refine wI ?_ | refine nD ?_ | refine aX rfl ?_ | refine vL rfl ?_)
                intro _u; clear _u
                refine cS (fun h6 => ?_) (fun h6 => ?_)
                · repeat ((intro _u; clear _u); first | with_reducible first | refine cT ?_ | refine cF ?_ | refine cA ?_ | refine cB ?_ | refine aLn ?_ | refine cK ?_ | refine aS8 ?_ | refine wI ?_ | refine nD ?_ | refine aX rfl ?_ | refine vL rfl ?_)
                  intro _u; clear _u
                  rw [shr_enc hx.1 (by omega)]
                  refine iwr_any ?_
                  repeat ((intro _u; clear _u); first | with_reducible first | refine cT ?_ | refine cF ?_ | refine cA ?_ | refine cB ?_ | refine aLn ?_ | refine cK ?_ | refine aS8 ?_ | refine wI ?_ | refine nD ?_ | refine aX rfl ?_ | refine vL rfl ?_)
                  intro _u; clear _u
                  refine ⟨by rw [slc8_length]; exact put_room hl h2 h1 h3 h6, ?_⟩
                  repeat ((intro _u; clear _u); first | with_reducible first | refine cT ?_ | refine cF ?_ | refine cA ?_ | refine cB ?_ | refine aLn ?_ | refine cK ?_ | refine aS8 ?_ | refine wI ?_ | refine nD ?_ | refine aX rfl ?_ | refine vL rfl ?_)
                  intro _u; clear _u
                  refine nX (i + 1) ?_ ?_ ⟨_, hp, rfl⟩ ?_ ?_
                  · omega
                  · omega
                  · all_goals repeat' (first | exact True.intro | refine And.intro ?_ ?_ | (intro _u; clear _u) | (with_reducible first | refine eM ?_ ?_ | refine eF ?_ ?_ ?_ | refine eN ?_ | refine eL ?_ ?_ ?_ | refine eA ?_ ?_ | refine IWk.mk ⟨_, hp, rfl⟩ ?_ ?_) | refine IWk.mk ⟨_, hp, rfl⟩ ?_ ?_)
                    all_goals first | with_reducible rfl | omega | exact Or.inl (by decide) | (simp; done) | rfl | skip
                  · all_goals repeat' (first | exact True.intro | refine And.intro ?_ ?_ | (intro _u; clear _u) | (with_reducible first | refine eM ?_ ?_ | refine eF ?_ ?_ ?_ | refine eN ?_ | refine eL ?_ ?_ ?_ | refine eA ?_ ?_ | refine IWk.mk ⟨_, hp, rfl⟩ ?_ ?_) | refine IWk.mk ⟨_, hp, rfl⟩ ?_ ?_)
                    all_goals first | with_reducible rfl | omega | exact Or.inl (by decide) | (simp; done) | rfl | skip
                    simp [enc_succ]
                · repeat ((intro _u; clear _u); first | with_reducible first | refine cT ?_ | refine cF ?_ | refine cA ?_ | refine cB ?_ | refine aLn ?_ | refine cK ?_ | refine aS8 ?_ | refine wI ?_ | refine nD ?_ | refine aX rfl ?_ | refine vL rfl ?_)
                  intro _u; clear _u
                  refine nX (k + 1) ?_ ?_ ⟨_, hp, rfl⟩ ?_ ?_
                  · refine ⟨by omega, ?_⟩
                    rw [any_take_succ hxk, hk.2, decide_eq_false hnb]; rfl
                  · omega
                  · all_goals repeat' (first | exact True.intro | refine And.intro ?_ ?_ | (intro _u; clear _u) | (with_reducible first | refine eM ?_ ?_ | refine eF ?_ ?_ ?_ | refine eN ?_ | refine eL ?_ ?_ ?_ | refine eA ?_ ?_ | refine IWk.mk ⟨_, hp, rfl⟩ ?_ ?_) | refine IWk.mk ⟨_, hp, rfl⟩ ?_ ?_)
                    all_goals first | with_reducible rfl | omega | exact Or.inl (by decide) | (simp; done) | rfl | skip
                    rw [take_succ_get hxk, show i = w.toNat by omega]; simp
                  · all_goals repeat' (first | exact True.intro | refine And.intro ?_ ?_ | (intro _u; clear _u) | (with_reducible first | refine eM ?_ ?_ | refine eF ?_ ?_ ?_ | refine eN ?_ | refine eL ?_ ?_ ?_ | refine eA ?_ ?_ | refine IWk.mk ⟨_, hp, rfl⟩ ?_ ?_) | refine IWk.mk ⟨_, hp, rfl⟩ ?_ ?_)
                    all_goals first | with_reducible rfl | omega | exact Or.inl (by decide) | (simp; done) | rfl | skip
                    rw [take_succ_get hxk, show i = w.toNat by omega]; simp
          · have hkn : n.take k = n := List.take_of_length_le (by omega)
            rw [hkn] at hk ⊢
            rw [puts_ok (by omega) (by omega) hk.2] at hq
            subst hq
            repeat ((intro _u; clear _u); first | with_reducible first | refine cT ?_ | refine cF ?_ | refine cA ?_ | refine cB ?_ | refine aLn ?_ | refine cK ?_ | refine aS8 ?_ | refine wI ?_ | refine nD ?_ | refine aX rfl ?_ | refine vL rfl ?_)
            intro _u; clear _u
            exact rM [0]
end Go.UM

/- Bits of numbers; numbers of bytes. -/

namespace Go.UM
open Go.AM

theorem ofInt_toNat {n : Nat} {x : Int} (h0 : 0 ≤ x) (h1 : x < 2 ^ n) : (BitVec.ofInt n x).toNat = x.toNat := by
  rw [BitVec.toNat_ofInt]
  congr 1
  apply Int.emod_eq_of_lt h0
  exact_mod_cast h1

theorem wr_nat_u64 {x : Nat} (h : x < 18446744073709551616) : wr .u64 (x : Int) = x := wr_in (k := .u64) ⟨by omega, by omega⟩
theorem wr_nat_u8 {x : Nat} (h : x < 256) : wr .u8 (x : Int) = x := wr_in (k := .u8) ⟨by omega, by omega⟩
theorem wr_nat_i64 {x : Nat} (h : x < 9223372036854775808) : wr .i64 (x : Int) = x := wr_in (k := .i64) ⟨by omega, by omega⟩

theorem or_u64 {x y : Int} (hx : 0 ≤ x ∧ x ≤ 18446744073709551615) (hy : 0 ≤ y ∧ y ≤ 18446744073709551615) : bit2 .or .u64 x y = ((x.toNat ||| y.toNat : Nat) : Int) := by
  have e : bit2 .or .u64 x y = wr .u64 ((BitVec.ofInt 64 x ||| BitVec.ofInt 64 y).toNat : Int) := rfl
  rw [e, BitVec.toNat_or, ofInt_toNat hx.1 (by omega), ofInt_toNat hy.1 (by omega)]
  apply wr_nat_u64
  exact Nat.or_lt_two_pow (n := 64) (by omega) (by omega)

theorem and_u64 {x y : Int} (hx : 0 ≤ x ∧ x ≤ 18446744073709551615) (hy : 0 ≤ y ∧ y ≤ 18446744073709551615) : bit2 .and .u64 x y = ((x.toNat &&& y.toNat : Nat) : Int) := by
  have e : bit2 .and .u64 x y = wr .u64 ((BitVec.ofInt 64 x &&& BitVec.ofInt 64 y).toNat : Int) := rfl
  rw [e, BitVec.toNat_and, ofInt_toNat hx.1 (by omega), ofInt_toNat hy.1 (by omega)]
  apply wr_nat_u64
  exact Nat.and_lt_two_pow (n := 64) _ (by omega)

theorem or_i64 {x y : Int} (hx : 0 ≤ x ∧ x ≤ 9223372036854775807) (hy : 0 ≤ y ∧ y ≤ 9223372036854775807) : bit2 .or .i64 x y = ((x.toNat ||| y.toNat : Nat) : Int) := by
  have e : bit2 .or .i64 x y = wr .i64 ((BitVec.ofInt 64 x ||| BitVec.ofInt 64 y).toNat : Int) := rfl
  rw [e, BitVec.toNat_or, ofInt_toNat hx.1 (by omega), ofInt_toNat hy.1 (by omega)]
  apply wr_nat_i64
  exact Nat.or_lt_two_pow (n := 63) (by omega) (by omega)

theorem and_i64 {x y : Int} (hx : 0 ≤ x ∧ x ≤ 9223372036854775807) (hy : 0 ≤ y ∧ y ≤ 9223372036854775807) : bit2 .and .i64 x y = ((x.toNat &&& y.toNat : Nat) : Int) := by
  have e : bit2 .and .i64 x y = wr .i64 ((BitVec.ofInt 64 x &&& BitVec.ofInt 64 y).toNat : Int) := rfl
  rw [e, BitVec.toNat_and, ofInt_toNat hx.1 (by omega), ofInt_toNat hy.1 (by omega)]
  apply wr_nat_i64
  exact Nat.and_lt_two_pow (n := 63) _ (by omega)

/-- The number of bytes, the least first. -/
def le : List UInt8 → Nat
  | [] => 0
  | c :: r => c.toNat + 256 * le r
theorem le_lt : ∀ l : List UInt8, le l < 256 ^ l.length
  | [] => by simp [le]
  | c :: r => by
    have h1 := le_lt r
    have h2 := c.toNat_lt
    simp only [le, List.length_cons, Nat.pow_succ]
    omega
theorem le_append : ∀ (l m : List UInt8), le (l ++ m) = le l + 256 ^ l.length * le m
  | [], m => by simp [le]
  | c :: r, m => by
    simp only [List.cons_append, le, le_append r, List.length_cons, Nat.pow_succ, Nat.mul_add]
    rw [Nat.mul_comm (256 ^ r.length) 256, Nat.mul_assoc]
    omega
theorem le_snoc (l : List UInt8) (c : UInt8) : le (l ++ [c]) = le l + 256 ^ l.length * c.toNat := by
  rw [le_append]; simp [le]

theorem shl_byte {c : Nat} {i : Nat} (hc : c < 256) (hi : i < 8) : shlI .u64 (c : Int) (8 * (i : Int)) = ((256 ^ i * c : Nat) : Int) := by
  have h : (8 * (i : Int)).toNat = 8 * i := by omega
  unfold shlI
  rw [h, show min (8 * i) (IntKind.bits .u64) = 8 * i by simp [IntKind.bits]; omega]
  have hp : (2 : Int) ^ (8 * i) = ((256 ^ i : Nat) : Int) := by rw [Int.pow_mul, Int.natCast_pow]; rfl
  rw [hp]
  have e : (c : Int) * ((256 ^ i : Nat) : Int) = ((256 ^ i * c : Nat) : Int) := by rw [Int.natCast_mul, Int.mul_comm]
  rw [e]
  apply wr_nat_u64
  have h1 : 256 ^ i * c < 256 ^ i * 256 := by
    apply Nat.mul_lt_mul_of_pos_left hc
    exact Nat.pow_pos (by decide)
  have h2 : 256 ^ i * 256 ≤ 256 ^ 8 := by
    rw [← Nat.pow_succ]
    exact Nat.pow_le_pow_right (by decide) (by omega)
  omega

theorem or_byte {n : Nat} {c : Nat} {i : Nat} (hn : n < 256 ^ i) (hc : c < 256) (hi : i < 8) : bit2 .or .u64 (n : Int) (shlI .u64 (c : Int) (8 * (i : Int))) = ((n + 256 ^ i * c : Nat) : Int) := by
  have h2 : 256 ^ i * 256 ≤ 256 ^ 8 := by
    rw [← Nat.pow_succ]
    exact Nat.pow_le_pow_right (by decide) (by omega)
  have h1 : 256 ^ i * c < 256 ^ i * 256 := by
    apply Nat.mul_lt_mul_of_pos_left hc
    exact Nat.pow_pos (by decide)
  rw [shl_byte hc hi, or_u64 ⟨by omega, by omega⟩ ⟨by omega, by omega⟩, Int.toNat_natCast, Int.toNat_natCast, Nat.or_comm]
  congr 1
  have e : 256 ^ i = 2 ^ (8 * i) := by rw [Nat.pow_mul]
  rw [e] at hn ⊢
  rw [← Nat.two_pow_add_eq_or_of_lt hn, Nat.add_comm]
end Go.UM
