/- Of the reckoning machine, and what is proved with it: texts joined by program. -/
import Derived.Test.YtfkakbaimadicaaK2
set_option linter.all false

/- The resolved code of package lib, function by function; numbers are those of the register, the same for all programs. -/

namespace Go.UM
open Go.AM
/-- bytes.Equal -/
def c47 : IFn := { np := 2, rs := [.t 4], body :=
 (.seq
  (.ops [⟨some 4, none, .mv (.k (.bool false))⟩])
  (.seq
   (.ops [⟨some 5, none, .mv (.t 0)⟩,
     ⟨some 6, none, .b2s (.t 5)⟩,
     ⟨some 7, none, .mv (.t 1)⟩,
     ⟨some 8, none, .b2s (.t 7)⟩,
     ⟨some 9, none, .bst .eql (.t 6) (.t 8)⟩,
     ⟨some 4, none, .mv (.t 9)⟩])
   (.keep [4]
    .ret))) }
structure N47 (R : Env) : Prop where
  o47 : R.Fn 47 c47
/-- slices.Clone[[]byte,byte][[]uint8,uint8] -/
def c62 : IFn := { np := 1, rs := [.t 2], body :=
 (.seq
  (.ops [⟨some 2, none, .mv (.k (.nils))⟩])
  (.seq
   (.seq
    (.ops [⟨some 3, none, .mv (.t 0)⟩,
      ⟨some 4, none, .isnS false (.t 3)⟩])
    (.cond (.t 4)
     (.seq
      (.ops [⟨some 2, none, .mv (.k (.nils))⟩])
      .ret)
     .skip))
   (.keep [0]
    (.seq
     (.ops [⟨some 5, none, .bslice 4 1 0 [.int .u8 0] []⟩,
       ⟨some 6, none, .mv (.t 0)⟩,
       ⟨some 7, none, .app 4 1 (.t 5) (.t 6)⟩,
       ⟨some 2, none, .mv (.t 7)⟩])
     .ret)))) }
structure N62 (R : Env) : Prop where
  o62 : R.Fn 62 c62
end Go.UM

/- The resolved code of package codec, function by function; numbers are those of the register, the same for all programs. -/

namespace Go.UM
open Go.AM
/-- umbra.codec.Put -/
def c54 : IFn := { np := 3, rs := [.t 6, .t 7], body :=
 (.seq
  (.ops [⟨some 6, none, .mv (.k (.nils))⟩,
    ⟨some 7, none, .mv (.k (.int .i64 0))⟩])
  (.seq
   (.seq
    (.ops [⟨some 12, none, .mv (.t 1)⟩,
      ⟨some 13, none, .bin .lss (.t 12) (.k (.int .i64 1))⟩,
      ⟨some 14, none, .mv (.t 13)⟩,
      ⟨some 15, some (14, false), .mv (.t 1)⟩,
      ⟨some 16, some (14, false), .bin .gtr (.t 15) (.k (.int .i64 8))⟩,
      ⟨some 17, none, .pick (.t 14) (.k (.bool true)) (.t 16)⟩])
    (.keep [0, 1, 2, 17]
     (.cond (.t 17)
      (.seq
       (.ops [⟨some 6, none, .mv (.k (.nils))⟩,
         ⟨some 7, none, .mv (.k (.int .i64 2))⟩])
       .ret)
      .skip)))
   (.keep [0, 1, 2]
    (.seq
     (.ops [⟨some 18, none, .mv (.t 0)⟩,
       ⟨some 19, none, .call 62 [.t 18]⟩,
       ⟨some 8, none, .mv (.t 19)⟩])
     (.seq
      (.seq
       (.ops [⟨some 20, none, .mv (.t 2)⟩,
         ⟨some 21, none, .lenS (.t 20)⟩,
         ⟨some 22, none, .mv (.k (.int .i64 0))⟩])
       (.keep [1, 8, 20, 21, 22]
        (.block 0
         (.loop
          (.seq
           (.ops [⟨some 23, none, .bin .lss (.t 22) (.t 21)⟩])
           (.seq
            (.cond (.t 23)
             .skip
             (.exit 0))
            (.keep [1, 8, 20, 21, 22]
             (.seq
              (.block 1
               (.seq
                (.ops [⟨some 24, none, .idxS 1 (.t 20) (.t 22)⟩,
                  ⟨some 25, none, .load false 1 (.t 24)⟩,
                  ⟨some 10, none, .mv (.t 25)⟩])
                (.seq
                 (.seq
                  (.ops [⟨some 26, none, .mv (.t 1)⟩,
                    ⟨some 27, none, .bin .lss (.t 26) (.k (.int .i64 8))⟩,
                    ⟨some 28, none, .mv (.t 27)⟩,
                    ⟨some 29, some (28, true), .mv (.t 10)⟩,
                    ⟨some 30, some (28, true), .mv (.t 1)⟩,
                    ⟨some 31, some (28, true), .bin .mul (.k (.int .i64 8)) (.t 30)⟩,
                    ⟨some 32, some (28, true), .bin .shr (.t 29) (.t 31)⟩,
                    ⟨some 33, some (28, true), .bin .gtr (.t 32) (.k (.int .u64 0))⟩,
                    ⟨some 34, none, .pick (.t 28) (.t 33) (.k (.bool false))⟩])
                  (.keep [1, 8, 10, 20, 21, 22, 34]
                   (.cond (.t 34)
                    (.seq
                     (.ops [⟨some 6, none, .mv (.k (.nils))⟩,
                       ⟨some 7, none, .mv (.k (.int .i64 3))⟩])
                     .ret)
                    .skip)))
                 (.keep [1, 8, 10, 20, 21, 22]
                  (.seq
                   (.ops [⟨some 35, none, .mv (.t 1)⟩,
                     ⟨some 36, none, .mv (.k (.int .i64 0))⟩])
                   (.keep [1, 8, 10, 20, 21, 22, 35, 36]
                    (.block 2
                     (.loop
                      (.seq
                       (.ops [⟨some 37, none, .bin .lss (.t 36) (.t 35)⟩])
                       (.seq
                        (.cond (.t 37)
                         .skip
                         (.exit 2))
                        (.keep [1, 8, 10, 20, 21, 22, 35, 36]
                         (.seq
                          (.block 3
                           (.seq
                            (.ops [⟨some 38, none, .mv (.t 36)⟩,
                              ⟨some 11, none, .mv (.t 38)⟩])
                            (.ops [⟨some 39, none, .mv (.t 8)⟩,
                              ⟨some 40, none, .mv (.t 10)⟩,
                              ⟨some 41, none, .mv (.t 11)⟩,
                              ⟨some 42, none, .bin .mul (.k (.int .i64 8)) (.t 41)⟩,
                              ⟨some 43, none, .bin .shr (.t 40) (.t 42)⟩,
                              ⟨some 44, none, .conv .u8 (.t 43)⟩,
                              ⟨some 45, none, .bslice 4 1 1 [.int .u8 0] [(0, .t 44)]⟩,
                              ⟨some 46, none, .app 4 1 (.t 39) (.t 45)⟩,
                              ⟨some 8, none, .mv (.t 46)⟩])))
                          (.keep [1, 8, 10, 20, 21, 22, 35, 36]
                           (.ops [⟨some 47, none, .bin .add (.t 36) (.k (.int .i64 1))⟩,
                             ⟨some 36, none, .mv (.t 47)⟩]))))))))))))))
              (.keep [1, 8, 20, 21, 22]
               (.ops [⟨some 48, none, .bin .add (.t 22) (.k (.int .i64 1))⟩,
                 ⟨some 22, none, .mv (.t 48)⟩]))))))))))
      (.keep [8]
       (.seq
        (.ops [⟨some 49, none, .mv (.t 8)⟩,
          ⟨some 6, none, .mv (.t 49)⟩,
          ⟨some 7, none, .mv (.k (.int .i64 0))⟩])
        .ret))))))) }
structure N54 (R : Env) : Prop where
  o54 : R.Fn 54 c54
  n62 : N62 R
/-- umbra.codec.New -/
def c56 : IFn := { np := 1, rs := [.t 2], body :=
 (.seq
  (.ops [⟨some 2, none, .mv (.k (.nilp))⟩])
  (.seq
   (.ops [⟨some 3, none, .mv (.t 0)⟩,
     ⟨some 4, none, .call 62 [.t 3]⟩,
     ⟨some 5, none, .build [.nils, .int .i64 0, .bool false] [(0, 1, .t 4), (2, 1, .k (.bool true))]⟩,
     ⟨some 6, none, .box 9 (.t 5)⟩,
     ⟨some 2, none, .mv (.t 6)⟩])
   (.keep [2]
    .ret))) }
structure N56 (R : Env) : Prop where
  o56 : R.Fn 56 c56
  n62 : N62 R
/-- (*umbra.codec.Reader).none -/
def c64 : IFn := { np := 1, rs := [.t 2], body :=
 (.seq
  (.ops [⟨some 2, none, .mv (.k (.bool false))⟩])
  (.seq
   (.ops [⟨some 3, none, .mv (.t 0)⟩,
     ⟨some 4, none, .isn false (.t 3)⟩,
     ⟨some 5, none, .mv (.t 4)⟩,
     ⟨some 6, some (5, false), .mv (.t 0)⟩,
     ⟨some 7, some (5, false), .nilck (.t 6)⟩,
     ⟨some 8, some (5, false), .fldA 2 (.t 7)⟩,
     ⟨some 9, some (5, false), .load false 1 (.t 8)⟩,
     ⟨some 10, some (5, false), .un .not (.t 9)⟩,
     ⟨some 11, none, .pick (.t 5) (.k (.bool true)) (.t 10)⟩,
     ⟨some 2, none, .mv (.t 11)⟩])
   (.keep [2]
    .ret))) }
structure N64 (R : Env) : Prop where
  o64 : R.Fn 64 c64
/-- (*umbra.codec.Reader).Take -/
def c59 : IFn := { np := 2, rs := [.t 4], body :=
 (.seq
  (.ops [⟨some 4, none, .mv (.k (.nils))⟩])
  (.seq
   (.block 0
    (.seq
     (.ops [⟨some 7, none, .mv (.t 0)⟩,
       ⟨some 8, none, .call 64 [.t 7]⟩,
       ⟨some 9, none, .mv (.t 8)⟩,
       ⟨some 10, some (9, false), .mv (.t 0)⟩,
       ⟨some 11, some (9, false), .nilck (.t 10)⟩,
       ⟨some 12, some (9, false), .fldA 1 (.t 11)⟩,
       ⟨some 13, some (9, false), .load false 1 (.t 12)⟩,
       ⟨some 14, some (9, false), .bin .neq (.t 13) (.k (.int .i64 0))⟩,
       ⟨some 15, none, .pick (.t 9) (.k (.bool true)) (.t 14)⟩,
       ⟨some 6, none, .mv (.t 15)⟩])
     (.keep [0, 1, 6]
      (.cond (.t 6)
       (.seq
        (.ops [⟨some 4, none, .mv (.k (.nils))⟩])
        .ret)
       (.seq
        (.ops [⟨some 17, none, .mv (.t 1)⟩,
          ⟨some 18, none, .bin .lss (.t 17) (.k (.int .i64 0))⟩,
          ⟨some 16, none, .mv (.t 18)⟩])
        (.cond (.t 16)
         (.seq
          (.ops [⟨some 19, none, .mv (.t 0)⟩,
            ⟨some 20, none, .nilck (.t 19)⟩,
            ⟨some 21, none, .fldA 1 (.t 20)⟩,
            ⟨none, none, .store 1 (.t 21) (.k (.int .i64 2))⟩])
          (.seq
           (.ops [⟨some 4, none, .mv (.k (.nils))⟩])
           .ret))
         (.seq
          (.ops [⟨some 23, none, .mv (.t 1)⟩,
            ⟨some 24, none, .mv (.t 0)⟩,
            ⟨some 25, none, .nilck (.t 24)⟩,
            ⟨some 26, none, .fldA 0 (.t 25)⟩,
            ⟨some 27, none, .load false 1 (.t 26)⟩,
            ⟨some 28, none, .lenS (.t 27)⟩,
            ⟨some 29, none, .bin .gtr (.t 23) (.t 28)⟩,
            ⟨some 22, none, .mv (.t 29)⟩])
          (.keep [0, 1, 22]
           (.cond (.t 22)
            (.seq
             (.ops [⟨some 30, none, .mv (.t 0)⟩,
               ⟨some 31, none, .nilck (.t 30)⟩,
               ⟨some 32, none, .fldA 1 (.t 31)⟩,
               ⟨none, none, .store 1 (.t 32) (.k (.int .i64 4))⟩])
             (.seq
              (.ops [⟨some 4, none, .mv (.k (.nils))⟩])
              .ret))
            .skip)))))))))
   (.keep [0, 1]
    (.seq
     (.ops [⟨some 33, none, .mv (.t 0)⟩,
       ⟨some 34, none, .nilck (.t 33)⟩,
       ⟨some 35, none, .fldA 0 (.t 34)⟩,
       ⟨some 36, none, .load false 1 (.t 35)⟩,
       ⟨some 37, none, .mv (.t 1)⟩,
       ⟨some 38, none, .mv (.t 1)⟩,
       ⟨some 39, none, .slcS 4 1 (.t 36) none (some (.t 37)) (some (.t 38))⟩,
       ⟨some 5, none, .mv (.t 39)⟩])
     (.keep [0, 1, 5]
      (.seq
       (.ops [⟨some 40, none, .mv (.t 0)⟩,
         ⟨some 41, none, .mv (.t 0)⟩,
         ⟨some 42, none, .nilck (.t 41)⟩,
         ⟨some 43, none, .fldA 0 (.t 42)⟩,
         ⟨some 44, none, .load false 1 (.t 43)⟩,
         ⟨some 45, none, .mv (.t 1)⟩,
         ⟨some 46, none, .slcS 4 1 (.t 44) (some (.t 45)) none none⟩,
         ⟨some 47, none, .nilck (.t 40)⟩,
         ⟨some 48, none, .fldA 0 (.t 47)⟩,
         ⟨none, none, .store 1 (.t 48) (.t 46)⟩])
       (.keep [5]
        (.seq
         (.ops [⟨some 49, none, .mv (.t 5)⟩,
           ⟨some 4, none, .mv (.t 49)⟩])
         .ret)))))))) }
structure N59 (R : Env) : Prop where
  o59 : R.Fn 59 c59
  n64 : N64 R
/-- (*umbra.codec.Reader).Num -/
def c57 : IFn := { np := 2, rs := [.t 4], body :=
 (.seq
  (.ops [⟨some 4, none, .mv (.k (.int .u64 0))⟩])
  (.seq
   (.seq
    (.ops [⟨some 8, none, .mv (.t 1)⟩,
      ⟨some 9, none, .bin .lss (.t 8) (.k (.int .i64 1))⟩,
      ⟨some 10, none, .mv (.t 9)⟩,
      ⟨some 11, some (10, false), .mv (.t 1)⟩,
      ⟨some 12, some (10, false), .bin .gtr (.t 11) (.k (.int .i64 8))⟩,
      ⟨some 13, none, .pick (.t 10) (.k (.bool true)) (.t 12)⟩])
    (.keep [0, 1, 13]
     (.cond (.t 13)
      (.ops [⟨some 1, none, .mv (.k (.int .i64 (-1)))⟩])
      .skip)))
   (.keep [0, 1]
    (.seq
     (.ops [⟨some 5, none, .mv (.k (.int .u64 0))⟩])
     (.seq
      (.seq
       (.ops [⟨some 14, none, .mv (.t 0)⟩,
         ⟨some 15, none, .mv (.t 1)⟩,
         ⟨some 16, none, .call 59 [.t 14, .t 15]⟩,
         ⟨some 17, none, .lenS (.t 16)⟩,
         ⟨some 18, none, .mv (.k (.int .i64 0))⟩])
       (.keep [5, 16, 17, 18]
        (.block 0
         (.loop
          (.seq
           (.ops [⟨some 19, none, .bin .lss (.t 18) (.t 17)⟩])
           (.seq
            (.cond (.t 19)
             .skip
             (.exit 0))
            (.keep [5, 16, 17, 18]
             (.seq
              (.block 1
               (.seq
                (.ops [⟨some 20, none, .mv (.t 18)⟩,
                  ⟨some 21, none, .idxS 1 (.t 16) (.t 18)⟩,
                  ⟨some 22, none, .load false 1 (.t 21)⟩,
                  ⟨some 6, none, .mv (.t 20)⟩,
                  ⟨some 7, none, .mv (.t 22)⟩])
                (.keep [5, 6, 7, 16, 17, 18]
                 (.ops [⟨some 23, none, .mv (.t 5)⟩,
                   ⟨some 24, none, .mv (.t 7)⟩,
                   ⟨some 25, none, .conv .u64 (.t 24)⟩,
                   ⟨some 26, none, .mv (.t 6)⟩,
                   ⟨some 27, none, .bin .mul (.k (.int .i64 8)) (.t 26)⟩,
                   ⟨some 28, none, .bin .shl (.t 25) (.t 27)⟩,
                   ⟨some 29, none, .bin .or (.t 23) (.t 28)⟩,
                   ⟨some 5, none, .mv (.t 29)⟩]))))
              (.keep [5, 16, 17, 18]
               (.ops [⟨some 30, none, .bin .add (.t 18) (.k (.int .i64 1))⟩,
                 ⟨some 18, none, .mv (.t 30)⟩]))))))))))
      (.keep [5]
       (.seq
        (.ops [⟨some 31, none, .mv (.t 5)⟩,
          ⟨some 4, none, .mv (.t 31)⟩])
        .ret))))))) }
structure N57 (R : Env) : Prop where
  o57 : R.Fn 57 c57
  n59 : N59 R
/-- (*umbra.codec.Reader).Err -/
def c65 : IFn := { np := 1, rs := [.t 2], body :=
 (.seq
  (.ops [⟨some 2, none, .mv (.k (.int .i64 0))⟩])
  (.seq
   (.seq
    (.ops [⟨some 3, none, .mv (.t 0)⟩,
      ⟨some 4, none, .call 64 [.t 3]⟩])
    (.cond (.t 4)
     (.seq
      (.ops [⟨some 2, none, .mv (.k (.int .i64 1))⟩])
      .ret)
     .skip))
   (.keep [0]
    (.seq
     (.ops [⟨some 5, none, .mv (.t 0)⟩,
       ⟨some 6, none, .nilck (.t 5)⟩,
       ⟨some 7, none, .fldA 1 (.t 6)⟩,
       ⟨some 8, none, .load false 1 (.t 7)⟩,
       ⟨some 2, none, .mv (.t 8)⟩])
     (.keep [2]
      .ret))))) }
structure N65 (R : Env) : Prop where
  o65 : R.Fn 65 c65
  n64 : N64 R
/-- (*umbra.codec.Reader).End -/
def c60 : IFn := { np := 1, rs := [.t 2], body :=
 (.seq
  (.ops [⟨some 2, none, .mv (.k (.int .i64 0))⟩])
  (.seq
   (.seq
    (.ops [⟨some 4, none, .mv (.t 0)⟩,
      ⟨some 5, none, .call 65 [.t 4]⟩,
      ⟨some 3, none, .mv (.t 5)⟩])
    (.seq
     (.ops [⟨some 6, none, .mv (.t 3)⟩,
       ⟨some 7, none, .bin .neq (.t 6) (.k (.int .i64 0))⟩])
     (.cond (.t 7)
      (.seq
       (.ops [⟨some 8, none, .mv (.t 3)⟩,
         ⟨some 2, none, .mv (.t 8)⟩])
       .ret)
      .skip)))
   (.keep [0]
    (.seq
     (.seq
      (.ops [⟨some 9, none, .mv (.t 0)⟩,
        ⟨some 10, none, .nilck (.t 9)⟩,
        ⟨some 11, none, .fldA 0 (.t 10)⟩,
        ⟨some 12, none, .load false 1 (.t 11)⟩,
        ⟨some 13, none, .lenS (.t 12)⟩,
        ⟨some 14, none, .bin .gtr (.t 13) (.k (.int .i64 0))⟩])
      (.keep [14]
       (.cond (.t 14)
        (.seq
         (.ops [⟨some 2, none, .mv (.k (.int .i64 5))⟩])
         .ret)
        .skip)))
     (.keep []
      (.seq
       (.ops [⟨some 2, none, .mv (.k (.int .i64 0))⟩])
       .ret)))))) }
structure N60 (R : Env) : Prop where
  o60 : R.Fn 60 c60
  n65 : N65 R
/-- (*umbra.codec.Reader).Left -/
def c68 : IFn := { np := 1, rs := [.t 2], body :=
 (.seq
  (.ops [⟨some 2, none, .mv (.k (.int .i64 0))⟩])
  (.seq
   (.seq
    (.ops [⟨some 3, none, .mv (.t 0)⟩,
      ⟨some 4, none, .call 64 [.t 3]⟩,
      ⟨some 5, none, .mv (.t 4)⟩,
      ⟨some 6, some (5, false), .mv (.t 0)⟩,
      ⟨some 7, some (5, false), .nilck (.t 6)⟩,
      ⟨some 8, some (5, false), .fldA 1 (.t 7)⟩,
      ⟨some 9, some (5, false), .load false 1 (.t 8)⟩,
      ⟨some 10, some (5, false), .bin .neq (.t 9) (.k (.int .i64 0))⟩,
      ⟨some 11, none, .pick (.t 5) (.k (.bool true)) (.t 10)⟩])
    (.keep [0, 11]
     (.cond (.t 11)
      (.seq
       (.ops [⟨some 2, none, .mv (.k (.int .i64 0))⟩])
       .ret)
      .skip)))
   (.keep [0]
    (.seq
     (.ops [⟨some 12, none, .mv (.t 0)⟩,
       ⟨some 13, none, .nilck (.t 12)⟩,
       ⟨some 14, none, .fldA 0 (.t 13)⟩,
       ⟨some 15, none, .load false 1 (.t 14)⟩,
       ⟨some 16, none, .lenS (.t 15)⟩,
       ⟨some 2, none, .mv (.t 16)⟩])
     (.keep [2]
      .ret))))) }
structure N68 (R : Env) : Prop where
  o68 : R.Fn 68 c68
  n64 : N64 R
/-- umbra.codec.Signed -/
def c71 : IFn := { np := 3, rs := [.t 6, .t 7], body :=
 (.seq
  (.ops [⟨some 6, none, .mv (.k (.nils))⟩,
    ⟨some 7, none, .mv (.k (.int .i64 0))⟩])
  (.seq
   (.seq
    (.ops [⟨some 12, none, .mv (.t 1)⟩,
      ⟨some 13, none, .bin .lss (.t 12) (.k (.int .i64 1))⟩,
      ⟨some 14, none, .mv (.t 13)⟩,
      ⟨some 15, some (14, false), .mv (.t 1)⟩,
      ⟨some 16, some (14, false), .bin .gtr (.t 15) (.k (.int .i64 8))⟩,
      ⟨some 17, none, .pick (.t 14) (.k (.bool true)) (.t 16)⟩])
    (.keep [0, 1, 2, 17]
     (.cond (.t 17)
      (.seq
       (.ops [⟨some 6, none, .mv (.k (.nils))⟩,
         ⟨some 7, none, .mv (.k (.int .i64 2))⟩])
       .ret)
      .skip)))
   (.keep [0, 1, 2]
    (.seq
     (.ops [⟨some 8, none, .mv (.k (.nils))⟩])
     (.seq
      (.seq
       (.ops [⟨some 18, none, .mv (.t 2)⟩,
         ⟨some 19, none, .lenS (.t 18)⟩,
         ⟨some 20, none, .mv (.k (.int .i64 0))⟩])
       (.keep [0, 1, 8, 18, 19, 20]
        (.block 0
         (.loop
          (.seq
           (.ops [⟨some 21, none, .bin .lss (.t 20) (.t 19)⟩])
           (.seq
            (.cond (.t 21)
             .skip
             (.exit 0))
            (.keep [0, 1, 8, 18, 19, 20]
             (.seq
              (.block 1
               (.seq
                (.ops [⟨some 22, none, .idxS 1 (.t 18) (.t 20)⟩,
                  ⟨some 23, none, .load false 1 (.t 22)⟩,
                  ⟨some 10, none, .mv (.t 23)⟩])
                (.seq
                 (.seq
                  (.ops [⟨some 24, none, .mv (.t 10)⟩,
                    ⟨some 25, none, .mv (.t 1)⟩,
                    ⟨some 26, none, .bin .mul (.k (.int .i64 8)) (.t 25)⟩,
                    ⟨some 27, none, .bin .sub (.k (.int .i64 64)) (.t 26)⟩,
                    ⟨some 28, none, .bin .shl (.t 24) (.t 27)⟩,
                    ⟨some 29, none, .mv (.t 1)⟩,
                    ⟨some 30, none, .bin .mul (.k (.int .i64 8)) (.t 29)⟩,
                    ⟨some 31, none, .bin .sub (.k (.int .i64 64)) (.t 30)⟩,
                    ⟨some 32, none, .bin .shr (.t 28) (.t 31)⟩,
                    ⟨some 11, none, .mv (.t 32)⟩])
                  (.keep [0, 1, 8, 10, 11, 18, 19, 20]
                   (.seq
                    (.ops [⟨some 33, none, .mv (.t 11)⟩,
                      ⟨some 34, none, .mv (.t 10)⟩,
                      ⟨some 35, none, .bin .neq (.t 33) (.t 34)⟩])
                    (.cond (.t 35)
                     (.seq
                      (.ops [⟨some 6, none, .mv (.k (.nils))⟩,
                        ⟨some 7, none, .mv (.k (.int .i64 3))⟩])
                      .ret)
                     .skip))))
                 (.keep [0, 1, 8, 10, 18, 19, 20]
                  (.ops [⟨some 36, none, .mv (.t 8)⟩,
                    ⟨some 37, none, .mv (.t 10)⟩,
                    ⟨some 38, none, .conv .u64 (.t 37)⟩,
                    ⟨some 39, none, .mv (.t 1)⟩,
                    ⟨some 40, none, .bin .mul (.k (.int .i64 8)) (.t 39)⟩,
                    ⟨some 41, none, .bin .sub (.k (.int .i64 64)) (.t 40)⟩,
                    ⟨some 42, none, .bin .shl (.t 38) (.t 41)⟩,
                    ⟨some 43, none, .mv (.t 1)⟩,
                    ⟨some 44, none, .bin .mul (.k (.int .i64 8)) (.t 43)⟩,
                    ⟨some 45, none, .bin .sub (.k (.int .i64 64)) (.t 44)⟩,
                    ⟨some 46, none, .bin .shr (.t 42) (.t 45)⟩,
                    ⟨some 47, none, .bslice 6 1 1 [.int .u64 0] [(0, .t 46)]⟩,
                    ⟨some 48, none, .app 6 1 (.t 36) (.t 47)⟩,
                    ⟨some 8, none, .mv (.t 48)⟩])))))
              (.keep [0, 1, 8, 18, 19, 20]
               (.ops [⟨some 49, none, .bin .add (.t 20) (.k (.int .i64 1))⟩,
                 ⟨some 20, none, .mv (.t 49)⟩]))))))))))
      (.keep [0, 1, 8]
       (.seq
        (.ops [⟨some 50, none, .mv (.t 0)⟩,
          ⟨some 51, none, .mv (.t 1)⟩,
          ⟨some 52, none, .mv (.t 8)⟩,
          ⟨some 53, none, .call 54 [.t 50, .t 51, .t 52]⟩,
          ⟨some 54, none, .ext (.t 53) 0⟩,
          ⟨some 55, none, .ext (.t 53) 1⟩,
          ⟨some 6, none, .mv (.t 54)⟩,
          ⟨some 7, none, .mv (.t 55)⟩])
        (.keep [6, 7]
         .ret)))))))) }
structure N71 (R : Env) : Prop where
  o71 : R.Fn 71 c71
  n54 : N54 R
/-- (*umbra.codec.Reader).Int -/
def c76 : IFn := { np := 2, rs := [.t 4], body :=
 (.seq
  (.ops [⟨some 4, none, .mv (.k (.int .i64 0))⟩])
  (.seq
   (.ops [⟨some 6, none, .mv (.t 0)⟩,
     ⟨some 7, none, .mv (.t 1)⟩,
     ⟨some 8, none, .call 57 [.t 6, .t 7]⟩,
     ⟨some 5, none, .mv (.t 8)⟩])
   (.seq
    (.seq
     (.ops [⟨some 9, none, .mv (.t 1)⟩,
       ⟨some 10, none, .bin .lss (.t 9) (.k (.int .i64 1))⟩,
       ⟨some 11, none, .mv (.t 10)⟩,
       ⟨some 12, some (11, false), .mv (.t 1)⟩,
       ⟨some 13, some (11, false), .bin .gtr (.t 12) (.k (.int .i64 8))⟩,
       ⟨some 14, none, .pick (.t 11) (.k (.bool true)) (.t 13)⟩])
     (.keep [1, 5, 14]
      (.cond (.t 14)
       (.seq
        (.ops [⟨some 4, none, .mv (.k (.int .i64 0))⟩])
        .ret)
       .skip)))
    (.keep [1, 5]
     (.seq
      (.ops [⟨some 15, none, .mv (.t 5)⟩,
        ⟨some 16, none, .conv .i64 (.t 15)⟩,
        ⟨some 17, none, .mv (.t 1)⟩,
        ⟨some 18, none, .bin .mul (.k (.int .i64 8)) (.t 17)⟩,
        ⟨some 19, none, .bin .sub (.k (.int .i64 64)) (.t 18)⟩,
        ⟨some 20, none, .bin .shl (.t 16) (.t 19)⟩,
        ⟨some 21, none, .mv (.t 1)⟩,
        ⟨some 22, none, .bin .mul (.k (.int .i64 8)) (.t 21)⟩,
        ⟨some 23, none, .bin .sub (.k (.int .i64 64)) (.t 22)⟩,
        ⟨some 24, none, .bin .shr (.t 20) (.t 23)⟩,
        ⟨some 4, none, .mv (.t 24)⟩])
      (.keep [4]
       .ret)))))) }
structure N76 (R : Env) : Prop where
  o76 : R.Fn 76 c76
  n57 : N57 R
end Go.UM

/- The resolved code of package umbraref11, function by function; numbers are those of the register, the same for all programs. -/

namespace Go.UM
open Go.AM
/-- umbra.umbraref11.most -/
def c63 : IFn := { np := 1, rs := [.t 2], body :=
 (.seq
  (.ops [⟨some 2, none, .mv (.k (.int .u64 0))⟩])
  (.seq
   (.ops [⟨some 3, none, .mv (.k (.int .u64 0))⟩])
   (.seq
    (.seq
     (.ops [⟨some 4, none, .mv (.k (.int .i64 0))⟩])
     (.keep [0, 3, 4]
      (.block 0
       (.loop
        (.seq
         (.seq
          (.ops [⟨some 5, none, .mv (.t 4)⟩,
            ⟨some 6, none, .mv (.t 0)⟩,
            ⟨some 7, none, .bin .lss (.t 5) (.t 6)⟩])
          (.cond (.t 7)
           .skip
           (.exit 0)))
         (.keep [0, 3, 4]
          (.seq
           (.block 1
            (.ops [⟨some 10, none, .mv (.t 3)⟩,
              ⟨some 11, none, .bin .mul (.t 10) (.k (.int .u64 256))⟩,
              ⟨some 12, none, .bin .add (.t 11) (.k (.int .u64 255))⟩,
              ⟨some 3, none, .mv (.t 12)⟩]))
           (.keep [0, 3, 4]
            (.ops [⟨some 8, none, .mv (.t 4)⟩,
              ⟨some 9, none, .bin .add (.t 8) (.k (.int .i64 1))⟩,
              ⟨some 4, none, .mv (.t 9)⟩])))))))))
    (.keep [3]
     (.seq
      (.ops [⟨some 13, none, .mv (.t 3)⟩,
        ⟨some 2, none, .mv (.t 13)⟩])
      .ret))))) }
structure N63 (R : Env) : Prop where
  o63 : R.Fn 63 c63
/-- umbra.umbraref11.Put -/
def c55 : IFn := { np := 3, rs := [.t 6, .t 7], body :=
 (.seq
  (.ops [⟨some 6, none, .mv (.k (.nils))⟩,
    ⟨some 7, none, .mv (.k (.int .i64 0))⟩])
  (.seq
   (.seq
    (.ops [⟨some 12, none, .mv (.t 1)⟩,
      ⟨some 13, none, .bin .lss (.t 12) (.k (.int .i64 1))⟩,
      ⟨some 14, none, .mv (.t 13)⟩,
      ⟨some 15, some (14, false), .mv (.t 1)⟩,
      ⟨some 16, some (14, false), .bin .gtr (.t 15) (.k (.int .i64 8))⟩,
      ⟨some 17, none, .pick (.t 14) (.k (.bool true)) (.t 16)⟩])
    (.keep [0, 1, 2, 17]
     (.cond (.t 17)
      (.seq
       (.ops [⟨some 6, none, .mv (.k (.nils))⟩,
         ⟨some 7, none, .mv (.k (.int .i64 2))⟩])
       .ret)
      .skip)))
   (.keep [0, 1, 2]
    (.seq
     (.ops [⟨some 18, none, .bslice 4 1 0 [.int .u8 0] []⟩,
       ⟨some 19, none, .mv (.t 0)⟩,
       ⟨some 20, none, .app 4 1 (.t 18) (.t 19)⟩,
       ⟨some 8, none, .mv (.t 20)⟩])
     (.seq
      (.seq
       (.ops [⟨some 9, none, .mv (.k (.int .i64 0))⟩])
       (.keep [1, 2, 8, 9]
        (.block 0
         (.loop
          (.seq
           (.seq
            (.ops [⟨some 21, none, .mv (.t 9)⟩,
              ⟨some 22, none, .mv (.t 2)⟩,
              ⟨some 23, none, .lenS (.t 22)⟩,
              ⟨some 24, none, .bin .lss (.t 21) (.t 23)⟩])
            (.cond (.t 24)
             .skip
             (.exit 0)))
           (.keep [1, 2, 8, 9]
            (.seq
             (.block 1
              (.seq
               (.seq
                (.draw [0, 0, 3, 7, 0, 16, 63] [[2], [9], [27, 28], [29], [1], [31], [30, 32]] [⟨some 27, none, .mv (.t 2)⟩,
                  ⟨some 28, none, .mv (.t 9)⟩,
                  ⟨some 29, none, .idxS 1 (.t 27) (.t 28)⟩,
                  ⟨some 30, none, .load false 1 (.t 29)⟩,
                  ⟨some 31, none, .mv (.t 1)⟩,
                  ⟨some 32, none, .call 63 [.t 31]⟩,
                  ⟨some 33, none, .bin .gtr (.t 30) (.t 32)⟩])
                (.keep [1, 2, 8, 9, 33]
                 (.cond (.t 33)
                  (.seq
                   (.ops [⟨some 6, none, .mv (.k (.nils))⟩,
                     ⟨some 7, none, .mv (.k (.int .i64 3))⟩])
                   .ret)
                  .skip)))
               (.keep [1, 2, 8, 9]
                (.seq
                 (.ops [⟨some 34, none, .mv (.t 2)⟩,
                   ⟨some 35, none, .mv (.t 9)⟩,
                   ⟨some 36, none, .idxS 1 (.t 34) (.t 35)⟩,
                   ⟨some 37, none, .load false 1 (.t 36)⟩,
                   ⟨some 10, none, .mv (.t 37)⟩])
                 (.keep [1, 2, 8, 9, 10]
                  (.seq
                   (.ops [⟨some 11, none, .mv (.k (.int .i64 0))⟩])
                   (.keep [1, 2, 8, 9, 10, 11]
                    (.block 2
                     (.loop
                      (.seq
                       (.seq
                        (.ops [⟨some 38, none, .mv (.t 11)⟩,
                          ⟨some 39, none, .mv (.t 1)⟩,
                          ⟨some 40, none, .bin .lss (.t 38) (.t 39)⟩])
                        (.cond (.t 40)
                         .skip
                         (.exit 2)))
                       (.keep [1, 2, 8, 9, 10, 11]
                        (.seq
                         (.block 3
                          (.seq
                           (.ops [⟨some 43, none, .mv (.t 8)⟩,
                             ⟨some 44, none, .mv (.t 10)⟩,
                             ⟨some 45, none, .bin .rem (.t 44) (.k (.int .u64 256))⟩,
                             ⟨some 46, none, .conv .u8 (.t 45)⟩,
                             ⟨some 47, none, .bslice 4 1 1 [.int .u8 0] [(0, .t 46)]⟩,
                             ⟨some 48, none, .app 4 1 (.t 43) (.t 47)⟩,
                             ⟨some 8, none, .mv (.t 48)⟩])
                           (.keep [1, 2, 8, 9, 10, 11]
                            (.ops [⟨some 49, none, .mv (.t 10)⟩,
                              ⟨some 50, none, .bin .quo (.t 49) (.k (.int .u64 256))⟩,
                              ⟨some 10, none, .mv (.t 50)⟩]))))
                         (.keep [1, 2, 8, 9, 10, 11]
                          (.ops [⟨some 41, none, .mv (.t 11)⟩,
                            ⟨some 42, none, .bin .add (.t 41) (.k (.int .i64 1))⟩,
                            ⟨some 11, none, .mv (.t 42)⟩]))))))))))))))
             (.keep [1, 2, 8, 9]
              (.ops [⟨some 25, none, .mv (.t 9)⟩,
                ⟨some 26, none, .bin .add (.t 25) (.k (.int .i64 1))⟩,
                ⟨some 9, none, .mv (.t 26)⟩])))))))))
      (.keep [8]
       (.seq
        (.ops [⟨some 51, none, .mv (.t 8)⟩,
          ⟨some 6, none, .mv (.t 51)⟩,
          ⟨some 7, none, .mv (.k (.int .i64 0))⟩])
        .ret))))))) }
structure N55 (R : Env) : Prop where
  o55 : R.Fn 55 c55
  n63 : N63 R
/-- (*umbra.umbraref11.Reader).Take -/
def c66 : IFn := { np := 2, rs := [.t 4], body :=
 (.seq
  (.ops [⟨some 4, none, .mv (.k (.nils))⟩])
  (.seq
   (.seq
    (.ops [⟨some 5, none, .mv (.t 0)⟩,
      ⟨some 6, none, .nilck (.t 5)⟩,
      ⟨some 7, none, .fldA 2 (.t 6)⟩,
      ⟨some 8, none, .load false 1 (.t 7)⟩,
      ⟨some 9, none, .bin .eql (.t 8) (.k (.int .i64 0))⟩,
      ⟨some 10, none, .mv (.t 9)⟩,
      ⟨some 11, some (10, true), .mv (.t 1)⟩,
      ⟨some 12, some (10, true), .bin .lss (.t 11) (.k (.int .i64 0))⟩,
      ⟨some 13, none, .pick (.t 10) (.t 12) (.k (.bool false))⟩])
    (.keep [0, 1, 13]
     (.cond (.t 13)
      (.ops [⟨some 14, none, .mv (.t 0)⟩,
        ⟨some 15, none, .nilck (.t 14)⟩,
        ⟨some 16, none, .fldA 2 (.t 15)⟩,
        ⟨none, none, .store 1 (.t 16) (.k (.int .i64 2))⟩])
      .skip)))
   (.keep [0, 1]
    (.seq
     (.seq
      (.draw [0, 1, 3, 7, 15, 31, 63, 63, 191, 447, 959, 1983, 63, 4159, 12351, 28735, 65471, 131071, 262143] [[0], [17], [18], [19], [20], [21], [1], [0], [24], [25], [26], [27], [0], [29], [30], [31], [28, 32], [23, 33], [22, 34]] [⟨some 17, none, .mv (.t 0)⟩,
        ⟨some 18, none, .nilck (.t 17)⟩,
        ⟨some 19, none, .fldA 2 (.t 18)⟩,
        ⟨some 20, none, .load false 1 (.t 19)⟩,
        ⟨some 21, none, .bin .eql (.t 20) (.k (.int .i64 0))⟩,
        ⟨some 22, none, .mv (.t 21)⟩,
        ⟨some 23, some (22, true), .mv (.t 1)⟩,
        ⟨some 24, some (22, true), .mv (.t 0)⟩,
        ⟨some 25, some (22, true), .nilck (.t 24)⟩,
        ⟨some 26, some (22, true), .fldA 0 (.t 25)⟩,
        ⟨some 27, some (22, true), .load false 1 (.t 26)⟩,
        ⟨some 28, some (22, true), .lenS (.t 27)⟩,
        ⟨some 29, some (22, true), .mv (.t 0)⟩,
        ⟨some 30, some (22, true), .nilck (.t 29)⟩,
        ⟨some 31, some (22, true), .fldA 1 (.t 30)⟩,
        ⟨some 32, some (22, true), .load false 1 (.t 31)⟩,
        ⟨some 33, some (22, true), .bin .sub (.t 28) (.t 32)⟩,
        ⟨some 34, some (22, true), .bin .gtr (.t 23) (.t 33)⟩,
        ⟨some 35, none, .pick (.t 22) (.t 34) (.k (.bool false))⟩])
      (.keep [0, 1, 35]
       (.cond (.t 35)
        (.ops [⟨some 36, none, .mv (.t 0)⟩,
          ⟨some 37, none, .nilck (.t 36)⟩,
          ⟨some 38, none, .fldA 2 (.t 37)⟩,
          ⟨none, none, .store 1 (.t 38) (.k (.int .i64 4))⟩])
        .skip)))
     (.keep [0, 1]
      (.seq
       (.seq
        (.ops [⟨some 39, none, .mv (.t 0)⟩,
          ⟨some 40, none, .nilck (.t 39)⟩,
          ⟨some 41, none, .fldA 2 (.t 40)⟩,
          ⟨some 42, none, .load false 1 (.t 41)⟩,
          ⟨some 43, none, .bin .neq (.t 42) (.k (.int .i64 0))⟩])
        (.keep [0, 1, 43]
         (.cond (.t 43)
          (.seq
           (.ops [⟨some 4, none, .mv (.k (.nils))⟩])
           .ret)
          .skip)))
       (.keep [0, 1]
        (.seq
         (.ops [⟨some 44, none, .mv (.t 0)⟩,
           ⟨some 45, none, .mv (.t 0)⟩,
           ⟨some 46, none, .nilck (.t 45)⟩,
           ⟨some 47, none, .fldA 1 (.t 46)⟩,
           ⟨some 48, none, .load false 1 (.t 47)⟩,
           ⟨some 49, none, .mv (.t 1)⟩,
           ⟨some 50, none, .bin .add (.t 48) (.t 49)⟩,
           ⟨some 51, none, .nilck (.t 44)⟩,
           ⟨some 52, none, .fldA 1 (.t 51)⟩,
           ⟨none, none, .store 1 (.t 52) (.t 50)⟩])
         (.keep [0, 1]
          (.seq
           (.draw [0, 1, 3, 7, 0, 16, 48, 112, 0, 496, 0, 1024, 3072, 7168, 16383, 32767] [[0], [53], [54], [55], [0], [57], [58], [59], [1], [60, 61], [0], [63], [64], [65], [56, 62, 66], [67]] [⟨some 53, none, .mv (.t 0)⟩,
             ⟨some 54, none, .nilck (.t 53)⟩,
             ⟨some 55, none, .fldA 0 (.t 54)⟩,
             ⟨some 56, none, .load false 1 (.t 55)⟩,
             ⟨some 57, none, .mv (.t 0)⟩,
             ⟨some 58, none, .nilck (.t 57)⟩,
             ⟨some 59, none, .fldA 1 (.t 58)⟩,
             ⟨some 60, none, .load false 1 (.t 59)⟩,
             ⟨some 61, none, .mv (.t 1)⟩,
             ⟨some 62, none, .bin .sub (.t 60) (.t 61)⟩,
             ⟨some 63, none, .mv (.t 0)⟩,
             ⟨some 64, none, .nilck (.t 63)⟩,
             ⟨some 65, none, .fldA 1 (.t 64)⟩,
             ⟨some 66, none, .load false 1 (.t 65)⟩,
             ⟨some 67, none, .slcS 4 1 (.t 56) (some (.t 62)) (some (.t 66)) none⟩,
             ⟨some 4, none, .mv (.t 67)⟩])
           (.keep [4]
            .ret))))))))))) }
structure N66 (R : Env) : Prop where
  o66 : R.Fn 66 c66
/-- (*umbra.umbraref11.Reader).Num -/
def c61 : IFn := { np := 2, rs := [.t 4], body :=
 (.seq
  (.ops [⟨some 4, none, .mv (.k (.int .u64 0))⟩])
  (.seq
   (.seq
    (.ops [⟨some 8, none, .mv (.t 0)⟩,
      ⟨some 9, none, .nilck (.t 8)⟩,
      ⟨some 10, none, .fldA 2 (.t 9)⟩,
      ⟨some 11, none, .load false 1 (.t 10)⟩,
      ⟨some 12, none, .bin .eql (.t 11) (.k (.int .i64 0))⟩,
      ⟨some 13, none, .mv (.t 12)⟩,
      ⟨some 14, some (13, true), .mv (.t 1)⟩,
      ⟨some 15, some (13, true), .bin .lss (.t 14) (.k (.int .i64 1))⟩,
      ⟨some 16, some (13, true), .mv (.t 15)⟩,
      ⟨some 17, some (16, false), .mv (.t 1)⟩,
      ⟨some 18, some (16, false), .bin .gtr (.t 17) (.k (.int .i64 8))⟩,
      ⟨some 19, some (13, true), .pick (.t 16) (.k (.bool true)) (.t 18)⟩,
      ⟨some 20, none, .pick (.t 13) (.t 19) (.k (.bool false))⟩])
    (.keep [0, 1, 20]
     (.cond (.t 20)
      (.ops [⟨some 21, none, .mv (.t 0)⟩,
        ⟨some 22, none, .nilck (.t 21)⟩,
        ⟨some 23, none, .fldA 2 (.t 22)⟩,
        ⟨none, none, .store 1 (.t 23) (.k (.int .i64 2))⟩])
      .skip)))
   (.keep [0, 1]
    (.seq
     (.ops [⟨some 24, none, .mv (.t 0)⟩,
       ⟨some 25, none, .mv (.t 1)⟩,
       ⟨some 26, none, .mm true [.t 25, .k (.int .i64 0)]⟩,
       ⟨some 27, none, .call 66 [.t 24, .t 26]⟩,
       ⟨some 5, none, .mv (.t 27)⟩])
     (.keep [5]
      (.seq
       (.ops [⟨some 6, none, .mv (.k (.int .u64 0))⟩])
       (.seq
        (.seq
         (.ops [⟨some 28, none, .mv (.t 5)⟩,
           ⟨some 29, none, .lenS (.t 28)⟩,
           ⟨some 30, none, .bin .sub (.t 29) (.k (.int .i64 1))⟩,
           ⟨some 7, none, .mv (.t 30)⟩])
         (.keep [5, 6, 7]
          (.block 0
           (.loop
            (.seq
             (.seq
              (.ops [⟨some 31, none, .mv (.t 7)⟩,
                ⟨some 32, none, .bin .geq (.t 31) (.k (.int .i64 0))⟩])
              (.cond (.t 32)
               .skip
               (.exit 0)))
             (.keep [5, 6, 7]
              (.seq
               (.block 1
                (.ops [⟨some 35, none, .mv (.t 6)⟩,
                  ⟨some 36, none, .bin .mul (.t 35) (.k (.int .u64 256))⟩,
                  ⟨some 37, none, .mv (.t 5)⟩,
                  ⟨some 38, none, .mv (.t 7)⟩,
                  ⟨some 39, none, .idxS 1 (.t 37) (.t 38)⟩,
                  ⟨some 40, none, .load false 1 (.t 39)⟩,
                  ⟨some 41, none, .conv .u64 (.t 40)⟩,
                  ⟨some 42, none, .bin .add (.t 36) (.t 41)⟩,
                  ⟨some 6, none, .mv (.t 42)⟩]))
               (.keep [5, 6, 7]
                (.ops [⟨some 33, none, .mv (.t 7)⟩,
                  ⟨some 34, none, .bin .sub (.t 33) (.k (.int .i64 1))⟩,
                  ⟨some 7, none, .mv (.t 34)⟩])))))))))
        (.keep [6]
         (.seq
          (.ops [⟨some 43, none, .mv (.t 6)⟩,
            ⟨some 4, none, .mv (.t 43)⟩])
          .ret))))))))) }
structure N61 (R : Env) : Prop where
  o61 : R.Fn 61 c61
  n66 : N66 R
/-- (*umbra.umbraref11.Reader).End -/
def c69 : IFn := { np := 1, rs := [.t 2], body :=
 (.seq
  (.ops [⟨some 2, none, .mv (.k (.int .i64 0))⟩])
  (.seq
   (.seq
    (.draw [0, 1, 3, 7, 15, 31, 63, 127, 255, 511, 63, 1087, 3135, 7231, 15423, 32767, 65535] [[0], [3], [4], [5], [6], [7], [0], [9], [10], [11], [0], [13], [14], [15], [16], [12, 17], [8, 18]] [⟨some 3, none, .mv (.t 0)⟩,
      ⟨some 4, none, .nilck (.t 3)⟩,
      ⟨some 5, none, .fldA 2 (.t 4)⟩,
      ⟨some 6, none, .load false 1 (.t 5)⟩,
      ⟨some 7, none, .bin .eql (.t 6) (.k (.int .i64 0))⟩,
      ⟨some 8, none, .mv (.t 7)⟩,
      ⟨some 9, some (8, true), .mv (.t 0)⟩,
      ⟨some 10, some (8, true), .nilck (.t 9)⟩,
      ⟨some 11, some (8, true), .fldA 1 (.t 10)⟩,
      ⟨some 12, some (8, true), .load false 1 (.t 11)⟩,
      ⟨some 13, some (8, true), .mv (.t 0)⟩,
      ⟨some 14, some (8, true), .nilck (.t 13)⟩,
      ⟨some 15, some (8, true), .fldA 0 (.t 14)⟩,
      ⟨some 16, some (8, true), .load false 1 (.t 15)⟩,
      ⟨some 17, some (8, true), .lenS (.t 16)⟩,
      ⟨some 18, some (8, true), .bin .lss (.t 12) (.t 17)⟩,
      ⟨some 19, none, .pick (.t 8) (.t 18) (.k (.bool false))⟩])
    (.keep [0, 19]
     (.cond (.t 19)
      (.seq
       (.ops [⟨some 2, none, .mv (.k (.int .i64 5))⟩])
       .ret)
      .skip)))
   (.keep [0]
    (.seq
     (.ops [⟨some 20, none, .mv (.t 0)⟩,
       ⟨some 21, none, .nilck (.t 20)⟩,
       ⟨some 22, none, .fldA 2 (.t 21)⟩,
       ⟨some 23, none, .load false 1 (.t 22)⟩,
       ⟨some 2, none, .mv (.t 23)⟩])
     (.keep [2]
      .ret))))) }
structure N69 (R : Env) : Prop where
  o69 : R.Fn 69 c69
/-- umbra.umbraref11.Signed -/
def c72 : IFn := { np := 3, rs := [.t 6, .t 7], body :=
 (.seq
  (.ops [⟨some 6, none, .mv (.k (.nils))⟩,
    ⟨some 7, none, .mv (.k (.int .i64 0))⟩])
  (.seq
   (.seq
    (.ops [⟨some 12, none, .mv (.t 1)⟩,
      ⟨some 13, none, .bin .lss (.t 12) (.k (.int .i64 1))⟩,
      ⟨some 14, none, .mv (.t 13)⟩,
      ⟨some 15, some (14, false), .mv (.t 1)⟩,
      ⟨some 16, some (14, false), .bin .gtr (.t 15) (.k (.int .i64 8))⟩,
      ⟨some 17, none, .pick (.t 14) (.k (.bool true)) (.t 16)⟩])
    (.keep [0, 1, 2, 17]
     (.cond (.t 17)
      (.seq
       (.ops [⟨some 6, none, .mv (.k (.nils))⟩,
         ⟨some 7, none, .mv (.k (.int .i64 2))⟩])
       .ret)
      .skip)))
   (.keep [0, 1, 2]
    (.seq
     (.ops [⟨some 18, none, .mv (.t 1)⟩,
       ⟨some 19, none, .call 63 [.t 18]⟩,
       ⟨some 20, none, .bin .quo (.t 19) (.k (.int .u64 2))⟩,
       ⟨some 21, none, .conv .i64 (.t 20)⟩,
       ⟨some 8, none, .mv (.t 21)⟩])
     (.keep [0, 1, 2, 8]
      (.seq
       (.ops [⟨some 9, none, .mv (.k (.nils))⟩])
       (.seq
        (.seq
         (.ops [⟨some 10, none, .mv (.k (.int .i64 0))⟩])
         (.keep [0, 1, 2, 8, 9, 10]
          (.block 0
           (.loop
            (.seq
             (.seq
              (.ops [⟨some 22, none, .mv (.t 10)⟩,
                ⟨some 23, none, .mv (.t 2)⟩,
                ⟨some 24, none, .lenS (.t 23)⟩,
                ⟨some 25, none, .bin .lss (.t 22) (.t 24)⟩])
              (.cond (.t 25)
               .skip
               (.exit 0)))
             (.keep [0, 1, 2, 8, 9, 10]
              (.seq
               (.block 1
                (.seq
                 (.seq
                  (.ops [⟨some 28, none, .mv (.t 2)⟩,
                    ⟨some 29, none, .mv (.t 10)⟩,
                    ⟨some 30, none, .idxS 1 (.t 28) (.t 29)⟩,
                    ⟨some 31, none, .load false 1 (.t 30)⟩,
                    ⟨some 32, none, .mv (.t 8)⟩,
                    ⟨some 33, none, .bin .gtr (.t 31) (.t 32)⟩,
                    ⟨some 34, none, .mv (.t 33)⟩,
                    ⟨some 35, some (34, false), .mv (.t 2)⟩,
                    ⟨some 36, some (34, false), .mv (.t 10)⟩,
                    ⟨some 37, some (34, false), .idxS 1 (.t 35) (.t 36)⟩,
                    ⟨some 38, some (34, false), .load false 1 (.t 37)⟩,
                    ⟨some 39, some (34, false), .mv (.t 8)⟩,
                    ⟨some 40, some (34, false), .un .neg (.t 39)⟩,
                    ⟨some 41, some (34, false), .bin .sub (.t 40) (.k (.int .i64 1))⟩,
                    ⟨some 42, some (34, false), .bin .lss (.t 38) (.t 41)⟩,
                    ⟨some 43, none, .pick (.t 34) (.k (.bool true)) (.t 42)⟩])
                  (.keep [0, 1, 2, 8, 9, 10, 43]
                   (.cond (.t 43)
                    (.seq
                     (.ops [⟨some 6, none, .mv (.k (.nils))⟩,
                       ⟨some 7, none, .mv (.k (.int .i64 3))⟩])
                     .ret)
                    .skip)))
                 (.keep [0, 1, 2, 8, 9, 10]
                  (.seq
                   (.ops [⟨some 44, none, .mv (.t 2)⟩,
                     ⟨some 45, none, .mv (.t 10)⟩,
                     ⟨some 46, none, .idxS 1 (.t 44) (.t 45)⟩,
                     ⟨some 47, none, .load false 1 (.t 46)⟩,
                     ⟨some 48, none, .conv .u64 (.t 47)⟩,
                     ⟨some 11, none, .mv (.t 48)⟩])
                   (.keep [0, 1, 2, 8, 9, 10, 11]
                    (.seq
                     (.seq
                      (.ops [⟨some 49, none, .mv (.t 2)⟩,
                        ⟨some 50, none, .mv (.t 10)⟩,
                        ⟨some 51, none, .idxS 1 (.t 49) (.t 50)⟩,
                        ⟨some 52, none, .load false 1 (.t 51)⟩,
                        ⟨some 53, none, .bin .lss (.t 52) (.k (.int .i64 0))⟩])
                      (.keep [0, 1, 2, 8, 9, 10, 11, 53]
                       (.cond (.t 53)
                        (.draw [0, 1, 0, 0, 12, 28, 60, 124, 252, 511, 1023] [[1], [54], [2], [10], [56, 57], [58], [59], [60], [61], [55, 62], [63]] [⟨some 54, none, .mv (.t 1)⟩,
                          ⟨some 55, none, .call 63 [.t 54]⟩,
                          ⟨some 56, none, .mv (.t 2)⟩,
                          ⟨some 57, none, .mv (.t 10)⟩,
                          ⟨some 58, none, .idxS 1 (.t 56) (.t 57)⟩,
                          ⟨some 59, none, .load false 1 (.t 58)⟩,
                          ⟨some 60, none, .bin .add (.t 59) (.k (.int .i64 1))⟩,
                          ⟨some 61, none, .un .neg (.t 60)⟩,
                          ⟨some 62, none, .conv .u64 (.t 61)⟩,
                          ⟨some 63, none, .bin .sub (.t 55) (.t 62)⟩,
                          ⟨some 11, none, .mv (.t 63)⟩])
                        .skip)))
                     (.keep [0, 1, 2, 8, 9, 10, 11]
                      (.ops [⟨some 64, none, .mv (.t 9)⟩,
                        ⟨some 65, none, .mv (.t 11)⟩,
                        ⟨some 66, none, .bslice 6 1 1 [.int .u64 0] [(0, .t 65)]⟩,
                        ⟨some 67, none, .app 6 1 (.t 64) (.t 66)⟩,
                        ⟨some 9, none, .mv (.t 67)⟩]))))))))
               (.keep [0, 1, 2, 8, 9, 10]
                (.ops [⟨some 26, none, .mv (.t 10)⟩,
                  ⟨some 27, none, .bin .add (.t 26) (.k (.int .i64 1))⟩,
                  ⟨some 10, none, .mv (.t 27)⟩])))))))))
        (.keep [0, 1, 9]
         (.seq
          (.ops [⟨some 68, none, .mv (.t 0)⟩,
            ⟨some 69, none, .mv (.t 1)⟩,
            ⟨some 70, none, .mv (.t 9)⟩,
            ⟨some 71, none, .call 55 [.t 68, .t 69, .t 70]⟩,
            ⟨some 72, none, .ext (.t 71) 0⟩,
            ⟨some 73, none, .ext (.t 71) 1⟩,
            ⟨some 6, none, .mv (.t 72)⟩,
            ⟨some 7, none, .mv (.t 73)⟩])
          (.keep [6, 7]
           .ret)))))))))) }
structure N72 (R : Env) : Prop where
  o72 : R.Fn 72 c72
  n55 : N55 R
  n63 : N63 R
/-- (*umbra.umbraref11.Reader).Int -/
def c77 : IFn := { np := 2, rs := [.t 4], body :=
 (.seq
  (.ops [⟨some 4, none, .mv (.k (.int .i64 0))⟩])
  (.seq
   (.ops [⟨some 6, none, .mv (.t 0)⟩,
     ⟨some 7, none, .mv (.t 1)⟩,
     ⟨some 8, none, .call 61 [.t 6, .t 7]⟩,
     ⟨some 5, none, .mv (.t 8)⟩])
   (.seq
    (.seq
     (.ops [⟨some 9, none, .mv (.t 0)⟩,
       ⟨some 10, none, .nilck (.t 9)⟩,
       ⟨some 11, none, .fldA 2 (.t 10)⟩,
       ⟨some 12, none, .load false 1 (.t 11)⟩,
       ⟨some 13, none, .bin .neq (.t 12) (.k (.int .i64 0))⟩])
     (.keep [1, 5, 13]
      (.cond (.t 13)
       (.seq
        (.ops [⟨some 4, none, .mv (.k (.int .i64 0))⟩])
        .ret)
       .skip)))
    (.keep [1, 5]
     (.seq
      (.seq
       (.ops [⟨some 14, none, .mv (.t 5)⟩,
         ⟨some 15, none, .mv (.t 1)⟩,
         ⟨some 16, none, .call 63 [.t 15]⟩,
         ⟨some 17, none, .bin .quo (.t 16) (.k (.int .u64 2))⟩,
         ⟨some 18, none, .bin .gtr (.t 14) (.t 17)⟩])
       (.keep [1, 5, 18]
        (.cond (.t 18)
         (.seq
          (.ops [⟨some 19, none, .mv (.t 1)⟩,
            ⟨some 20, none, .call 63 [.t 19]⟩,
            ⟨some 21, none, .mv (.t 5)⟩,
            ⟨some 22, none, .bin .sub (.t 20) (.t 21)⟩,
            ⟨some 23, none, .conv .i64 (.t 22)⟩,
            ⟨some 24, none, .un .neg (.t 23)⟩,
            ⟨some 25, none, .bin .sub (.t 24) (.k (.int .i64 1))⟩,
            ⟨some 4, none, .mv (.t 25)⟩])
          (.keep [4]
           .ret))
         .skip)))
      (.keep [5]
       (.seq
        (.ops [⟨some 26, none, .mv (.t 5)⟩,
          ⟨some 27, none, .conv .i64 (.t 26)⟩,
          ⟨some 4, none, .mv (.t 27)⟩])
        .ret))))))) }
structure N77 (R : Env) : Prop where
  o77 : R.Fn 77 c77
  n61 : N61 R
  n63 : N63 R
/-- (*umbra.umbraref11.Reader).Left -/
def c78 : IFn := { np := 1, rs := [.t 2], body :=
 (.seq
  (.ops [⟨some 2, none, .mv (.k (.int .i64 0))⟩])
  (.seq
   (.seq
    (.ops [⟨some 3, none, .mv (.t 0)⟩,
      ⟨some 4, none, .nilck (.t 3)⟩,
      ⟨some 5, none, .fldA 2 (.t 4)⟩,
      ⟨some 6, none, .load false 1 (.t 5)⟩,
      ⟨some 7, none, .bin .neq (.t 6) (.k (.int .i64 0))⟩])
    (.keep [0, 7]
     (.cond (.t 7)
      (.seq
       (.ops [⟨some 2, none, .mv (.k (.int .i64 0))⟩])
       .ret)
      .skip)))
   (.keep [0]
    (.seq
     (.draw [0, 1, 3, 7, 15, 0, 32, 96, 224, 511, 1023] [[0], [8], [9], [10], [11], [0], [13], [14], [15], [12, 16], [17]] [⟨some 8, none, .mv (.t 0)⟩,
       ⟨some 9, none, .nilck (.t 8)⟩,
       ⟨some 10, none, .fldA 0 (.t 9)⟩,
       ⟨some 11, none, .load false 1 (.t 10)⟩,
       ⟨some 12, none, .lenS (.t 11)⟩,
       ⟨some 13, none, .mv (.t 0)⟩,
       ⟨some 14, none, .nilck (.t 13)⟩,
       ⟨some 15, none, .fldA 1 (.t 14)⟩,
       ⟨some 16, none, .load false 1 (.t 15)⟩,
       ⟨some 17, none, .bin .sub (.t 12) (.t 16)⟩,
       ⟨some 2, none, .mv (.t 17)⟩])
     (.keep [2]
      .ret))))) }
structure N78 (R : Env) : Prop where
  o78 : R.Fn 78 c78
end Go.UM

/- The resolved code of package umbralaw11, function by function; numbers are those of the register, the same for all programs. -/



namespace Go.UM
open Go.AM
/-- umbra.umbralaw11.works -/
def c73 : IFn := { np := 0, rs := [.t 0], body :=
 (.seq
  (.ops [⟨some 0, none, .mv (.k (.bool false))⟩])
  (.seq
   (.ops [⟨some 6, none, .bslice 6 1 2 [.int .u64 0] [(0, .k (.int .u64 258)), (1, .k (.int .u64 1))]⟩,
     ⟨some 7, none, .call 54 [.k (.nils), .k (.int .i64 2), .t 6]⟩,
     ⟨some 5, none, .mv (.t 7)⟩,
     ⟨some 8, none, .ext (.t 5) 0⟩,
     ⟨some 9, none, .ext (.t 5) 1⟩,
     ⟨some 1, none, .mv (.t 8)⟩,
     ⟨some 2, none, .mv (.t 9)⟩])
   (.keep [1, 2]
    (.seq
     (.ops [⟨some 11, none, .bslice 10 1 1 [.int .i64 0] [(0, .k (.int .i64 (-1)))]⟩,
       ⟨some 12, none, .call 71 [.k (.nils), .k (.int .i64 2), .t 11]⟩,
       ⟨some 10, none, .mv (.t 12)⟩,
       ⟨some 13, none, .ext (.t 10) 0⟩,
       ⟨some 14, none, .ext (.t 10) 1⟩,
       ⟨some 3, none, .mv (.t 13)⟩,
       ⟨some 4, none, .mv (.t 14)⟩])
     (.keep [1, 2, 3, 4]
      (.seq
       (.ops [⟨some 15, none, .mv (.t 2)⟩,
         ⟨some 16, none, .bin .eql (.t 15) (.k (.int .i64 0))⟩,
         ⟨some 17, none, .mv (.t 16)⟩,
         ⟨some 18, some (17, true), .mv (.t 1)⟩,
         ⟨some 19, some (17, true), .bslice 4 1 4 [.int .u8 0] [(0, .k (.int .u8 2)), (1, .k (.int .u8 1)), (2, .k (.int .u8 1)), (3, .k (.int .u8 0))]⟩,
         ⟨some 20, some (17, true), .call 47 [.t 18, .t 19]⟩,
         ⟨some 21, none, .pick (.t 17) (.t 20) (.k (.bool false))⟩,
         ⟨some 22, none, .mv (.t 21)⟩,
         ⟨some 23, some (22, true), .mv (.t 4)⟩,
         ⟨some 24, some (22, true), .bin .eql (.t 23) (.k (.int .i64 0))⟩,
         ⟨some 25, none, .pick (.t 22) (.t 24) (.k (.bool false))⟩,
         ⟨some 26, none, .mv (.t 25)⟩,
         ⟨some 27, some (26, true), .mv (.t 3)⟩,
         ⟨some 28, some (26, true), .bslice 4 1 2 [.int .u8 0] [(0, .k (.int .u8 255)), (1, .k (.int .u8 255))]⟩,
         ⟨some 29, some (26, true), .call 47 [.t 27, .t 28]⟩,
         ⟨some 30, none, .pick (.t 26) (.t 29) (.k (.bool false))⟩,
         ⟨some 0, none, .mv (.t 30)⟩])
       (.keep [0]
        .ret))))))) }
structure N73 (R : Env) : Prop where
  o73 : R.Fn 73 c73
  n47 : N47 R
  n54 : N54 R
  n71 : N71 R
/-- umbra.umbralaw11.CodecPuts -/
def c70 : IFn := { np := 3, rs := [.t 6], body :=
 (.seq
  (.ops [⟨some 6, none, .mv (.k (.bool false))⟩])
  (.seq
   (.draw [0, 0, 2, 6, 15, 0, 0, 64, 192, 480, 31, 2047] [[0], [0], [19], [20], [18, 21], [2], [2], [24], [25], [23, 26], [22], [27]] [⟨some 18, none, .mv (.t 0)⟩,
     ⟨some 19, none, .mv (.t 0)⟩,
     ⟨some 20, none, .lenS (.t 19)⟩,
     ⟨some 21, none, .mm false [.t 20, .k (.int .i64 40)]⟩,
     ⟨some 22, none, .slcS 4 1 (.t 18) none (some (.t 21)) none⟩,
     ⟨some 23, none, .mv (.t 2)⟩,
     ⟨some 24, none, .mv (.t 2)⟩,
     ⟨some 25, none, .lenS (.t 24)⟩,
     ⟨some 26, none, .mm false [.t 25, .k (.int .i64 20)]⟩,
     ⟨some 27, none, .slcS 6 1 (.t 23) none (some (.t 26)) none⟩,
     ⟨some 0, none, .mv (.t 22)⟩,
     ⟨some 2, none, .mv (.t 27)⟩])
   (.keep [0, 1, 2]
    (.seq
     (.ops [⟨some 29, none, .mv (.t 0)⟩,
       ⟨some 30, none, .mv (.t 1)⟩,
       ⟨some 31, none, .mv (.t 2)⟩,
       ⟨some 32, none, .call 54 [.t 29, .t 30, .t 31]⟩,
       ⟨some 28, none, .mv (.t 32)⟩,
       ⟨some 33, none, .ext (.t 28) 0⟩,
       ⟨some 34, none, .ext (.t 28) 1⟩,
       ⟨some 7, none, .mv (.t 33)⟩,
       ⟨some 8, none, .mv (.t 34)⟩])
     (.keep [0, 1, 2, 7, 8]
      (.seq
       (.ops [⟨some 36, none, .mv (.t 0)⟩,
         ⟨some 37, none, .mv (.t 1)⟩,
         ⟨some 38, none, .mv (.t 2)⟩,
         ⟨some 39, none, .call 55 [.t 36, .t 37, .t 38]⟩,
         ⟨some 35, none, .mv (.t 39)⟩,
         ⟨some 40, none, .ext (.t 35) 0⟩,
         ⟨some 41, none, .ext (.t 35) 1⟩,
         ⟨some 9, none, .mv (.t 40)⟩,
         ⟨some 10, none, .mv (.t 41)⟩])
       (.keep [0, 1, 2, 7, 8, 9, 10]
        (.seq
         (.ops [⟨some 11, none, .mv (.k (.nils))⟩])
         (.seq
          (.seq
           (.ops [⟨some 42, none, .mv (.t 2)⟩,
             ⟨some 43, none, .lenS (.t 42)⟩,
             ⟨some 44, none, .mv (.k (.int .i64 0))⟩])
           (.keep [0, 1, 7, 8, 9, 10, 11, 42, 43, 44]
            (.block 0
             (.loop
              (.seq
               (.ops [⟨some 45, none, .bin .lss (.t 44) (.t 43)⟩])
               (.seq
                (.cond (.t 45)
                 .skip
                 (.exit 0))
                (.keep [0, 1, 7, 8, 9, 10, 11, 42, 43, 44]
                 (.seq
                  (.block 1
                   (.seq
                    (.ops [⟨some 46, none, .idxS 1 (.t 42) (.t 44)⟩,
                      ⟨some 47, none, .load false 1 (.t 46)⟩,
                      ⟨some 13, none, .mv (.t 47)⟩])
                    (.ops [⟨some 48, none, .mv (.t 11)⟩,
                      ⟨some 49, none, .mv (.t 13)⟩,
                      ⟨some 50, none, .conv .i64 (.t 49)⟩,
                      ⟨some 51, none, .bslice 10 1 1 [.int .i64 0] [(0, .t 50)]⟩,
                      ⟨some 52, none, .app 10 1 (.t 48) (.t 51)⟩,
                      ⟨some 11, none, .mv (.t 52)⟩])))
                  (.keep [0, 1, 7, 8, 9, 10, 11, 42, 43, 44]
                   (.ops [⟨some 53, none, .bin .add (.t 44) (.k (.int .i64 1))⟩,
                     ⟨some 44, none, .mv (.t 53)⟩]))))))))))
          (.keep [0, 1, 7, 8, 9, 10, 11]
           (.seq
            (.ops [⟨some 55, none, .mv (.t 0)⟩,
              ⟨some 56, none, .mv (.t 1)⟩,
              ⟨some 57, none, .mv (.t 11)⟩,
              ⟨some 58, none, .call 71 [.t 55, .t 56, .t 57]⟩,
              ⟨some 54, none, .mv (.t 58)⟩,
              ⟨some 59, none, .ext (.t 54) 0⟩,
              ⟨some 60, none, .ext (.t 54) 1⟩,
              ⟨some 14, none, .mv (.t 59)⟩,
              ⟨some 15, none, .mv (.t 60)⟩])
            (.keep [0, 1, 7, 8, 9, 10, 11, 14, 15]
             (.seq
              (.ops [⟨some 62, none, .mv (.t 0)⟩,
                ⟨some 63, none, .mv (.t 1)⟩,
                ⟨some 64, none, .mv (.t 11)⟩,
                ⟨some 65, none, .call 72 [.t 62, .t 63, .t 64]⟩,
                ⟨some 61, none, .mv (.t 65)⟩,
                ⟨some 66, none, .ext (.t 61) 0⟩,
                ⟨some 67, none, .ext (.t 61) 1⟩,
                ⟨some 16, none, .mv (.t 66)⟩,
                ⟨some 17, none, .mv (.t 67)⟩])
              (.keep [7, 8, 9, 10, 14, 15, 16, 17]
               (.seq
                (.ops [⟨some 68, none, .mv (.t 7)⟩,
                  ⟨some 69, none, .mv (.t 9)⟩,
                  ⟨some 70, none, .call 47 [.t 68, .t 69]⟩,
                  ⟨some 71, none, .mv (.t 70)⟩,
                  ⟨some 72, some (71, true), .mv (.t 8)⟩,
                  ⟨some 73, some (71, true), .mv (.t 10)⟩,
                  ⟨some 74, some (71, true), .bin .eql (.t 72) (.t 73)⟩,
                  ⟨some 75, none, .pick (.t 71) (.t 74) (.k (.bool false))⟩,
                  ⟨some 76, none, .mv (.t 75)⟩,
                  ⟨some 77, some (76, true), .mv (.t 14)⟩,
                  ⟨some 78, some (76, true), .mv (.t 16)⟩,
                  ⟨some 79, some (76, true), .call 47 [.t 77, .t 78]⟩,
                  ⟨some 80, none, .pick (.t 76) (.t 79) (.k (.bool false))⟩,
                  ⟨some 81, none, .mv (.t 80)⟩,
                  ⟨some 82, some (81, true), .mv (.t 15)⟩,
                  ⟨some 83, some (81, true), .mv (.t 17)⟩,
                  ⟨some 84, some (81, true), .bin .eql (.t 82) (.t 83)⟩,
                  ⟨some 85, none, .pick (.t 81) (.t 84) (.k (.bool false))⟩,
                  ⟨some 86, none, .mv (.t 85)⟩,
                  ⟨some 87, some (86, true), .call 73 []⟩,
                  ⟨some 88, none, .pick (.t 86) (.t 87) (.k (.bool false))⟩,
                  ⟨some 6, none, .mv (.t 88)⟩])
                (.keep [6]
                 .ret)))))))))))))))) }
structure N70 (R : Env) : Prop where
  o70 : R.Fn 70 c70
  n47 : N47 R
  n54 : N54 R
  n55 : N55 R
  n71 : N71 R
  n72 : N72 R
  n73 : N73 R
/-- umbra.umbralaw11.CodecWidths -/
def c74 : IFn := { np := 2, rs := [.t 4], body :=
 (.seq
  (.ops [⟨some 4, none, .mv (.k (.bool false))⟩])
  (.seq
   (.ops [⟨some 9, none, .mv (.t 1)⟩,
     ⟨some 10, none, .bin .rem (.t 9) (.k (.int .i64 7))⟩,
     ⟨some 11, none, .bin .add (.t 10) (.k (.int .i64 7))⟩,
     ⟨some 12, none, .bin .rem (.t 11) (.k (.int .i64 7))⟩,
     ⟨some 13, none, .bin .add (.t 12) (.k (.int .i64 1))⟩,
     ⟨some 1, none, .mv (.t 13)⟩])
   (.keep [0, 1]
    (.seq
     (.ops [⟨some 15, none, .mv (.t 1)⟩,
       ⟨some 16, none, .mv (.t 0)⟩,
       ⟨some 17, none, .bslice 6 1 1 [.int .u64 0] [(0, .t 16)]⟩,
       ⟨some 18, none, .call 54 [.k (.nils), .t 15, .t 17]⟩,
       ⟨some 14, none, .mv (.t 18)⟩,
       ⟨some 19, none, .ext (.t 14) 0⟩,
       ⟨some 20, none, .ext (.t 14) 1⟩,
       ⟨some 5, none, .mv (.t 19)⟩,
       ⟨some 6, none, .mv (.t 20)⟩])
     (.keep [0, 1, 5, 6]
      (.seq
       (.ops [⟨some 22, none, .mv (.t 1)⟩,
         ⟨some 23, none, .bin .add (.t 22) (.k (.int .i64 1))⟩,
         ⟨some 24, none, .mv (.t 0)⟩,
         ⟨some 25, none, .bslice 6 1 1 [.int .u64 0] [(0, .t 24)]⟩,
         ⟨some 26, none, .call 54 [.k (.nils), .t 23, .t 25]⟩,
         ⟨some 21, none, .mv (.t 26)⟩,
         ⟨some 27, none, .ext (.t 21) 0⟩,
         ⟨some 28, none, .ext (.t 21) 1⟩,
         ⟨some 7, none, .mv (.t 27)⟩,
         ⟨some 8, none, .mv (.t 28)⟩])
       (.keep [1, 5, 6, 7, 8]
        (.seq
         (.seq
          (.ops [⟨some 29, none, .mv (.t 6)⟩,
            ⟨some 30, none, .bin .neq (.t 29) (.k (.int .i64 0))⟩])
          (.cond (.t 30)
           (.seq
            (.ops [⟨some 31, none, .mv (.t 6)⟩,
              ⟨some 32, none, .bin .eql (.t 31) (.k (.int .i64 3))⟩,
              ⟨some 33, none, .mv (.t 32)⟩,
              ⟨some 34, some (33, true), .call 73 []⟩,
              ⟨some 35, none, .pick (.t 33) (.t 34) (.k (.bool false))⟩,
              ⟨some 4, none, .mv (.t 35)⟩])
            (.keep [4]
             .ret))
           .skip))
         (.keep [1, 5, 7, 8]
          (.seq
           (.draw [0, 1, 3, 7, 15, 7, 39, 127, 255, 511, 1023, 2047, 1023, 8191, 16383, 32767, 65535, 131071, 65535, 65535, 851967, 1900543, 4194303, 8388607, 16777215, 33554431, 33554431, 134217727, 268435455, 536870911, 1073741823, 2147483647, 4294967295, 8589934591, 17179869183] [[8], [36], [37], [7], [39], [1], [41], [40, 42], [38, 43], [44], [5], [46], [1], [47, 48], [45, 49], [50], [5], [52], [7], [1], [54, 55], [56], [53, 57], [51, 58], [59], [7], [1], [61, 62], [63], [64], [60, 65], [66], [], [67, 68], [69]] [⟨some 36, none, .mv (.t 8)⟩,
             ⟨some 37, none, .bin .eql (.t 36) (.k (.int .i64 0))⟩,
             ⟨some 38, none, .mv (.t 37)⟩,
             ⟨some 39, some (38, true), .mv (.t 7)⟩,
             ⟨some 40, some (38, true), .lenS (.t 39)⟩,
             ⟨some 41, some (38, true), .mv (.t 1)⟩,
             ⟨some 42, some (38, true), .bin .add (.t 41) (.k (.int .i64 1))⟩,
             ⟨some 43, some (38, true), .bin .eql (.t 40) (.t 42)⟩,
             ⟨some 44, none, .pick (.t 38) (.t 43) (.k (.bool false))⟩,
             ⟨some 45, none, .mv (.t 44)⟩,
             ⟨some 46, some (45, true), .mv (.t 5)⟩,
             ⟨some 47, some (45, true), .lenS (.t 46)⟩,
             ⟨some 48, some (45, true), .mv (.t 1)⟩,
             ⟨some 49, some (45, true), .bin .eql (.t 47) (.t 48)⟩,
             ⟨some 50, none, .pick (.t 45) (.t 49) (.k (.bool false))⟩,
             ⟨some 51, none, .mv (.t 50)⟩,
             ⟨some 52, some (51, true), .mv (.t 5)⟩,
             ⟨some 53, some (51, true), .b2s (.t 52)⟩,
             ⟨some 54, some (51, true), .mv (.t 7)⟩,
             ⟨some 55, some (51, true), .mv (.t 1)⟩,
             ⟨some 56, some (51, true), .slcS 4 1 (.t 54) none (some (.t 55)) none⟩,
             ⟨some 57, some (51, true), .b2s (.t 56)⟩,
             ⟨some 58, some (51, true), .bst .eql (.t 53) (.t 57)⟩,
             ⟨some 59, none, .pick (.t 51) (.t 58) (.k (.bool false))⟩,
             ⟨some 60, none, .mv (.t 59)⟩,
             ⟨some 61, some (60, true), .mv (.t 7)⟩,
             ⟨some 62, some (60, true), .mv (.t 1)⟩,
             ⟨some 63, some (60, true), .idxS 1 (.t 61) (.t 62)⟩,
             ⟨some 64, some (60, true), .load false 1 (.t 63)⟩,
             ⟨some 65, some (60, true), .bin .eql (.t 64) (.k (.int .u8 0))⟩,
             ⟨some 66, none, .pick (.t 60) (.t 65) (.k (.bool false))⟩,
             ⟨some 67, none, .mv (.t 66)⟩,
             ⟨some 68, some (67, true), .call 73 []⟩,
             ⟨some 69, none, .pick (.t 67) (.t 68) (.k (.bool false))⟩,
             ⟨some 4, none, .mv (.t 69)⟩])
           (.keep [4]
            .ret))))))))))) }
structure N74 (R : Env) : Prop where
  o74 : R.Fn 74 c74
  n54 : N54 R
  n73 : N73 R
/-- umbra.umbralaw11.CodecReads -/
def c75 : IFn := { np := 2, rs := [.t 4], body :=
 (.seq
  (.ops [⟨some 4, none, .mv (.k (.bool false))⟩])
  (.seq
   (.ops [⟨some 11, none, .mv (.t 0)⟩,
     ⟨some 12, none, .mv (.t 0)⟩,
     ⟨some 13, none, .lenS (.t 12)⟩,
     ⟨some 14, none, .mm false [.t 13, .k (.int .i64 200)]⟩,
     ⟨some 15, none, .slcS 4 1 (.t 11) none (some (.t 14)) none⟩,
     ⟨some 0, none, .mv (.t 15)⟩])
   (.keep [0, 1]
    (.seq
     (.ops [⟨some 16, none, .mv (.t 0)⟩,
       ⟨some 17, none, .call 56 [.t 16]⟩,
       ⟨some 18, none, .mv (.t 0)⟩,
       ⟨some 19, none, .build [.nils, .int .i64 0, .int .i64 0] [(0, 1, .t 18)]⟩,
       ⟨some 20, none, .box 8 (.t 19)⟩,
       ⟨some 5, none, .mv (.t 17)⟩,
       ⟨some 6, none, .mv (.t 20)⟩])
     (.keep [1, 5, 6]
      (.seq
       (.seq
        (.ops [⟨some 21, none, .mv (.t 5)⟩,
          ⟨some 22, none, .isn false (.t 21)⟩])
        (.cond (.t 22)
         (.seq
          (.ops [⟨some 4, none, .mv (.k (.bool false))⟩])
          .ret)
         .skip))
       (.keep [1, 5, 6]
        (.seq
         (.ops [⟨some 7, none, .alloc 9 [.nils, .int .i64 0, .bool false]⟩])
         (.seq
          (.seq
           (.ops [⟨some 8, none, .mv (.k (.int .i64 0))⟩])
           (.keep [1, 5, 6, 7, 8]
            (.block 0
             (.loop
              (.seq
               (.seq
                (.ops [⟨some 23, none, .mv (.t 8)⟩,
                  ⟨some 24, none, .mv (.t 1)⟩,
                  ⟨some 25, none, .lenS (.t 24)⟩,
                  ⟨some 26, none, .bin .lss (.t 23) (.t 25)⟩,
                  ⟨some 27, none, .mv (.t 26)⟩,
                  ⟨some 28, some (27, true), .mv (.t 8)⟩,
                  ⟨some 29, some (27, true), .bin .lss (.t 28) (.k (.int .i64 30))⟩,
                  ⟨some 30, none, .pick (.t 27) (.t 29) (.k (.bool false))⟩])
                (.keep [1, 5, 6, 7, 8, 30]
                 (.cond (.t 30)
                  .skip
                  (.exit 0))))
               (.keep [1, 5, 6, 7, 8]
                (.seq
                 (.block 1
                  (.seq
                   (.ops [⟨some 33, none, .mv (.t 1)⟩,
                     ⟨some 34, none, .mv (.t 8)⟩,
                     ⟨some 35, none, .idxS 2 (.t 33) (.t 34)⟩,
                     ⟨some 36, none, .load true 2 (.t 35)⟩,
                     ⟨some 9, none, .alloc 11 [.int .i64 0, .int .i64 0]⟩,
                     ⟨none, none, .store 2 (.t 9) (.t 36)⟩])
                   (.keep [1, 5, 6, 7, 8, 9]
                    (.seq
                     (.seq
                      (.ops [⟨some 37, none, .fldA 0 (.t 9)⟩,
                        ⟨some 38, none, .load false 1 (.t 37)⟩])
                      (.block 2
                       (.seq
                        (.ops [⟨some 57, none, .bin .eql (.t 38) (.k (.int .i64 0))⟩,
                          ⟨some 56, none, .mv (.t 57)⟩])
                        (.cond (.t 56)
                         (.seq
                          (.draw [0, 0, 2, 7, 0, 0, 32, 127, 255, 511, 1023, 2047, 4095, 8191, 16383] [[5], [9], [59], [58, 60], [6], [9], [63], [62, 64], [61, 65], [66], [9], [68], [7, 69], [70], [67, 71]] [⟨some 58, none, .mv (.t 5)⟩,
                            ⟨some 59, none, .fldA 1 (.t 9)⟩,
                            ⟨some 60, none, .load false 1 (.t 59)⟩,
                            ⟨some 61, none, .call 57 [.t 58, .t 60]⟩,
                            ⟨some 62, none, .mv (.t 6)⟩,
                            ⟨some 63, none, .fldA 1 (.t 9)⟩,
                            ⟨some 64, none, .load false 1 (.t 63)⟩,
                            ⟨some 65, none, .call 61 [.t 62, .t 64]⟩,
                            ⟨some 66, none, .bin .neq (.t 61) (.t 65)⟩,
                            ⟨some 67, none, .mv (.t 66)⟩,
                            ⟨some 68, some (67, false), .fldA 1 (.t 9)⟩,
                            ⟨some 69, some (67, false), .load false 1 (.t 68)⟩,
                            ⟨some 70, some (67, false), .call 57 [.t 7, .t 69]⟩,
                            ⟨some 71, some (67, false), .bin .neq (.t 70) (.k (.int .u64 0))⟩,
                            ⟨some 72, none, .pick (.t 67) (.k (.bool true)) (.t 71)⟩])
                          (.keep [1, 5, 6, 7, 8, 72]
                           (.cond (.t 72)
                            (.seq
                             (.ops [⟨some 4, none, .mv (.k (.bool false))⟩])
                             .ret)
                            .skip)))
                         (.seq
                          (.ops [⟨some 74, none, .bin .eql (.t 38) (.k (.int .i64 1))⟩,
                            ⟨some 73, none, .mv (.t 74)⟩])
                          (.cond (.t 73)
                           (.seq
                            (.draw [0, 0, 2, 7, 0, 0, 32, 127, 255, 511, 1023, 2047, 4095, 8191, 16383] [[5], [9], [76], [75, 77], [6], [9], [80], [79, 81], [78, 82], [83], [9], [85], [7, 86], [87], [84, 88]] [⟨some 75, none, .mv (.t 5)⟩,
                              ⟨some 76, none, .fldA 1 (.t 9)⟩,
                              ⟨some 77, none, .load false 1 (.t 76)⟩,
                              ⟨some 78, none, .call 76 [.t 75, .t 77]⟩,
                              ⟨some 79, none, .mv (.t 6)⟩,
                              ⟨some 80, none, .fldA 1 (.t 9)⟩,
                              ⟨some 81, none, .load false 1 (.t 80)⟩,
                              ⟨some 82, none, .call 77 [.t 79, .t 81]⟩,
                              ⟨some 83, none, .bin .neq (.t 78) (.t 82)⟩,
                              ⟨some 84, none, .mv (.t 83)⟩,
                              ⟨some 85, some (84, false), .fldA 1 (.t 9)⟩,
                              ⟨some 86, some (84, false), .load false 1 (.t 85)⟩,
                              ⟨some 87, some (84, false), .call 76 [.t 7, .t 86]⟩,
                              ⟨some 88, some (84, false), .bin .neq (.t 87) (.k (.int .i64 0))⟩,
                              ⟨some 89, none, .pick (.t 84) (.k (.bool true)) (.t 88)⟩])
                            (.keep [1, 5, 6, 7, 8, 89]
                             (.cond (.t 89)
                              (.seq
                               (.ops [⟨some 4, none, .mv (.k (.bool false))⟩])
                               .ret)
                              .skip)))
                           (.seq
                            (.draw [0, 0, 2, 7, 0, 0, 32, 127, 255, 511, 1023, 2047, 4095, 8191, 16383, 32767, 65535] [[5], [9], [40], [39, 41], [6], [9], [44], [43, 45], [42, 46], [47], [48], [9], [50], [7, 51], [52], [53], [49, 54]] [⟨some 39, none, .mv (.t 5)⟩,
                              ⟨some 40, none, .fldA 1 (.t 9)⟩,
                              ⟨some 41, none, .load false 1 (.t 40)⟩,
                              ⟨some 42, none, .call 59 [.t 39, .t 41]⟩,
                              ⟨some 43, none, .mv (.t 6)⟩,
                              ⟨some 44, none, .fldA 1 (.t 9)⟩,
                              ⟨some 45, none, .load false 1 (.t 44)⟩,
                              ⟨some 46, none, .call 66 [.t 43, .t 45]⟩,
                              ⟨some 47, none, .call 47 [.t 42, .t 46]⟩,
                              ⟨some 48, none, .un .not (.t 47)⟩,
                              ⟨some 49, none, .mv (.t 48)⟩,
                              ⟨some 50, some (49, false), .fldA 1 (.t 9)⟩,
                              ⟨some 51, some (49, false), .load false 1 (.t 50)⟩,
                              ⟨some 52, some (49, false), .call 59 [.t 7, .t 51]⟩,
                              ⟨some 53, some (49, false), .lenS (.t 52)⟩,
                              ⟨some 54, some (49, false), .bin .neq (.t 53) (.k (.int .i64 0))⟩,
                              ⟨some 55, none, .pick (.t 49) (.k (.bool true)) (.t 54)⟩])
                            (.keep [1, 5, 6, 7, 8, 55]
                             (.cond (.t 55)
                              (.seq
                               (.ops [⟨some 4, none, .mv (.k (.bool false))⟩])
                               .ret)
                              .skip)))))))))
                     (.keep [1, 5, 6, 7, 8]
                      (.seq
                       (.draw [0, 1, 0, 7, 15, 31, 63, 127, 63, 319, 831, 1855, 4095, 8191, 16383, 32767, 65535, 32767, 262143, 524287, 1048575] [[5], [90], [6], [92], [91, 93], [94], [5], [96], [6], [98], [99], [100], [97, 101], [95, 102], [103], [5], [105], [6], [107], [106, 108], [104, 109]] [⟨some 90, none, .mv (.t 5)⟩,
                         ⟨some 91, none, .call 68 [.t 90]⟩,
                         ⟨some 92, none, .mv (.t 6)⟩,
                         ⟨some 93, none, .call 78 [.t 92]⟩,
                         ⟨some 94, none, .bin .neq (.t 91) (.t 93)⟩,
                         ⟨some 95, none, .mv (.t 94)⟩,
                         ⟨some 96, some (95, false), .mv (.t 5)⟩,
                         ⟨some 97, some (95, false), .call 65 [.t 96]⟩,
                         ⟨some 98, some (95, false), .mv (.t 6)⟩,
                         ⟨some 99, some (95, false), .nilck (.t 98)⟩,
                         ⟨some 100, some (95, false), .fldA 2 (.t 99)⟩,
                         ⟨some 101, some (95, false), .load false 1 (.t 100)⟩,
                         ⟨some 102, some (95, false), .bin .neq (.t 97) (.t 101)⟩,
                         ⟨some 103, none, .pick (.t 95) (.k (.bool true)) (.t 102)⟩,
                         ⟨some 104, none, .mv (.t 103)⟩,
                         ⟨some 105, some (104, false), .mv (.t 5)⟩,
                         ⟨some 106, some (104, false), .call 60 [.t 105]⟩,
                         ⟨some 107, some (104, false), .mv (.t 6)⟩,
                         ⟨some 108, some (104, false), .call 69 [.t 107]⟩,
                         ⟨some 109, some (104, false), .bin .neq (.t 106) (.t 108)⟩,
                         ⟨some 110, none, .pick (.t 104) (.k (.bool true)) (.t 109)⟩])
                       (.keep [1, 5, 6, 7, 8, 110]
                        (.cond (.t 110)
                         (.seq
                          (.ops [⟨some 4, none, .mv (.k (.bool false))⟩])
                          .ret)
                         .skip))))))))
                 (.keep [1, 5, 6, 7, 8]
                  (.ops [⟨some 31, none, .mv (.t 8)⟩,
                    ⟨some 32, none, .bin .add (.t 31) (.k (.int .i64 1))⟩,
                    ⟨some 8, none, .mv (.t 32)⟩])))))))))
          (.keep [7]
           (.seq
            (.ops [⟨some 10, none, .mv (.k (.nilp))⟩])
            (.seq
             (.ops [⟨some 111, none, .call 65 [.t 7]⟩,
               ⟨some 112, none, .bin .eql (.t 111) (.k (.int .i64 1))⟩,
               ⟨some 113, none, .mv (.t 112)⟩,
               ⟨some 114, some (113, true), .call 60 [.t 7]⟩,
               ⟨some 115, some (113, true), .bin .eql (.t 114) (.k (.int .i64 1))⟩,
               ⟨some 116, none, .pick (.t 113) (.t 115) (.k (.bool false))⟩,
               ⟨some 117, none, .mv (.t 116)⟩,
               ⟨some 118, some (117, true), .call 68 [.t 7]⟩,
               ⟨some 119, some (117, true), .bin .eql (.t 118) (.k (.int .i64 0))⟩,
               ⟨some 120, none, .pick (.t 117) (.t 119) (.k (.bool false))⟩,
               ⟨some 121, none, .mv (.t 120)⟩,
               ⟨some 122, some (121, true), .mv (.t 10)⟩,
               ⟨some 123, some (121, true), .call 65 [.t 122]⟩,
               ⟨some 124, some (121, true), .bin .eql (.t 123) (.k (.int .i64 1))⟩,
               ⟨some 125, none, .pick (.t 121) (.t 124) (.k (.bool false))⟩,
               ⟨some 126, none, .mv (.t 125)⟩,
               ⟨some 127, some (126, true), .mv (.t 10)⟩,
               ⟨some 128, some (126, true), .call 57 [.t 127, .k (.int .i64 1)]⟩,
               ⟨some 129, some (126, true), .bin .eql (.t 128) (.k (.int .u64 0))⟩,
               ⟨some 130, none, .pick (.t 126) (.t 129) (.k (.bool false))⟩,
               ⟨some 131, none, .mv (.t 130)⟩,
               ⟨some 132, some (131, true), .call 73 []⟩,
               ⟨some 133, none, .pick (.t 131) (.t 132) (.k (.bool false))⟩,
               ⟨some 4, none, .mv (.t 133)⟩])
             (.keep [4]
              .ret))))))))))))) }
structure N75 (R : Env) : Prop where
  o75 : R.Fn 75 c75
  n47 : N47 R
  n56 : N56 R
  n57 : N57 R
  n59 : N59 R
  n60 : N60 R
  n61 : N61 R
  n65 : N65 R
  n66 : N66 R
  n68 : N68 R
  n69 : N69 R
  n73 : N73 R
  n76 : N76 R
  n77 : N77 R
  n78 : N78 R
/-- umbra.umbralaw11.CodecBack -/
def c79 : IFn := { np := 3, rs := [.t 6], body :=
 (.seq
  (.ops [⟨some 6, none, .mv (.k (.bool false))⟩])
  (.seq
   (.ops [⟨some 17, none, .mv (.t 2)⟩,
     ⟨some 18, none, .bin .rem (.t 17) (.k (.int .i64 8))⟩,
     ⟨some 19, none, .bin .add (.t 18) (.k (.int .i64 8))⟩,
     ⟨some 20, none, .bin .rem (.t 19) (.k (.int .i64 8))⟩,
     ⟨some 21, none, .bin .add (.t 20) (.k (.int .i64 1))⟩,
     ⟨some 2, none, .mv (.t 21)⟩])
   (.keep [0, 1, 2]
    (.seq
     (.draw [0, 0, 2, 6, 15, 0, 0, 64, 192, 480, 31, 2047] [[0], [0], [23], [24], [22, 25], [1], [1], [28], [29], [27, 30], [26], [31]] [⟨some 22, none, .mv (.t 0)⟩,
       ⟨some 23, none, .mv (.t 0)⟩,
       ⟨some 24, none, .lenS (.t 23)⟩,
       ⟨some 25, none, .mm false [.t 24, .k (.int .i64 10)]⟩,
       ⟨some 26, none, .slcS 6 1 (.t 22) none (some (.t 25)) none⟩,
       ⟨some 27, none, .mv (.t 1)⟩,
       ⟨some 28, none, .mv (.t 1)⟩,
       ⟨some 29, none, .lenS (.t 28)⟩,
       ⟨some 30, none, .mm false [.t 29, .k (.int .i64 10)]⟩,
       ⟨some 31, none, .slcS 10 1 (.t 27) none (some (.t 30)) none⟩,
       ⟨some 0, none, .mv (.t 26)⟩,
       ⟨some 1, none, .mv (.t 31)⟩])
     (.keep [0, 1, 2]
      (.seq
       (.ops [⟨some 33, none, .mv (.t 2)⟩,
         ⟨some 34, none, .mv (.t 0)⟩,
         ⟨some 35, none, .call 54 [.k (.nils), .t 33, .t 34]⟩,
         ⟨some 32, none, .mv (.t 35)⟩,
         ⟨some 36, none, .ext (.t 32) 0⟩,
         ⟨some 37, none, .ext (.t 32) 1⟩,
         ⟨some 7, none, .mv (.t 36)⟩,
         ⟨some 8, none, .mv (.t 37)⟩])
       (.keep [0, 1, 2, 7, 8]
        (.seq
         (.seq
          (.ops [⟨some 38, none, .mv (.t 8)⟩,
            ⟨some 39, none, .bin .neq (.t 38) (.k (.int .i64 0))⟩])
          (.cond (.t 39)
           (.seq
            (.ops [⟨some 40, none, .mv (.t 8)⟩,
              ⟨some 41, none, .bin .eql (.t 40) (.k (.int .i64 3))⟩,
              ⟨some 42, none, .mv (.t 41)⟩,
              ⟨some 43, some (42, true), .mv (.t 2)⟩,
              ⟨some 44, some (42, true), .bin .lss (.t 43) (.k (.int .i64 8))⟩,
              ⟨some 45, none, .pick (.t 42) (.t 44) (.k (.bool false))⟩,
              ⟨some 46, none, .mv (.t 45)⟩,
              ⟨some 47, some (46, true), .mv (.t 7)⟩,
              ⟨some 48, some (46, true), .lenS (.t 47)⟩,
              ⟨some 49, some (46, true), .bin .eql (.t 48) (.k (.int .i64 0))⟩,
              ⟨some 50, none, .pick (.t 46) (.t 49) (.k (.bool false))⟩,
              ⟨some 51, none, .mv (.t 50)⟩,
              ⟨some 52, some (51, true), .call 73 []⟩,
              ⟨some 53, none, .pick (.t 51) (.t 52) (.k (.bool false))⟩,
              ⟨some 6, none, .mv (.t 53)⟩])
            (.keep [6]
             .ret))
           .skip))
         (.keep [0, 1, 2, 7]
          (.seq
           (.ops [⟨some 55, none, .mv (.t 7)⟩,
             ⟨some 56, none, .mv (.t 2)⟩,
             ⟨some 57, none, .mv (.t 1)⟩,
             ⟨some 58, none, .call 71 [.t 55, .t 56, .t 57]⟩,
             ⟨some 54, none, .mv (.t 58)⟩,
             ⟨some 59, none, .ext (.t 54) 0⟩,
             ⟨some 60, none, .ext (.t 54) 1⟩,
             ⟨some 9, none, .mv (.t 59)⟩,
             ⟨some 10, none, .mv (.t 60)⟩])
           (.keep [0, 1, 2, 9, 10]
            (.seq
             (.seq
              (.ops [⟨some 61, none, .mv (.t 10)⟩,
                ⟨some 62, none, .bin .neq (.t 61) (.k (.int .i64 0))⟩])
              (.cond (.t 62)
               (.seq
                (.ops [⟨some 63, none, .mv (.t 10)⟩,
                  ⟨some 64, none, .bin .eql (.t 63) (.k (.int .i64 3))⟩,
                  ⟨some 65, none, .mv (.t 64)⟩,
                  ⟨some 66, some (65, true), .mv (.t 2)⟩,
                  ⟨some 67, some (65, true), .bin .lss (.t 66) (.k (.int .i64 8))⟩,
                  ⟨some 68, none, .pick (.t 65) (.t 67) (.k (.bool false))⟩,
                  ⟨some 69, none, .mv (.t 68)⟩,
                  ⟨some 70, some (69, true), .mv (.t 9)⟩,
                  ⟨some 71, some (69, true), .lenS (.t 70)⟩,
                  ⟨some 72, some (69, true), .bin .eql (.t 71) (.k (.int .i64 0))⟩,
                  ⟨some 73, none, .pick (.t 69) (.t 72) (.k (.bool false))⟩,
                  ⟨some 74, none, .mv (.t 73)⟩,
                  ⟨some 75, some (74, true), .call 73 []⟩,
                  ⟨some 76, none, .pick (.t 74) (.t 75) (.k (.bool false))⟩,
                  ⟨some 6, none, .mv (.t 76)⟩])
                (.keep [6]
                 .ret))
               .skip))
             (.keep [0, 1, 2, 9]
              (.seq
               (.ops [⟨some 77, none, .mv (.t 9)⟩,
                 ⟨some 78, none, .call 56 [.t 77]⟩,
                 ⟨some 11, none, .mv (.t 78)⟩])
               (.seq
                (.seq
                 (.ops [⟨some 79, none, .mv (.t 11)⟩,
                   ⟨some 80, none, .isn false (.t 79)⟩])
                 (.cond (.t 80)
                  (.seq
                   (.ops [⟨some 6, none, .mv (.k (.bool false))⟩])
                   .ret)
                  .skip))
                (.keep [0, 1, 2, 9, 11]
                 (.seq
                  (.seq
                   (.ops [⟨some 81, none, .mv (.t 0)⟩,
                     ⟨some 82, none, .lenS (.t 81)⟩,
                     ⟨some 83, none, .mv (.k (.int .i64 0))⟩])
                   (.keep [0, 1, 2, 9, 11, 81, 82, 83]
                    (.block 0
                     (.loop
                      (.seq
                       (.ops [⟨some 84, none, .bin .lss (.t 83) (.t 82)⟩])
                       (.seq
                        (.cond (.t 84)
                         .skip
                         (.exit 0))
                        (.keep [0, 1, 2, 9, 11, 81, 82, 83]
                         (.seq
                          (.block 1
                           (.seq
                            (.ops [⟨some 85, none, .idxS 1 (.t 81) (.t 83)⟩,
                              ⟨some 86, none, .load false 1 (.t 85)⟩,
                              ⟨some 13, none, .mv (.t 86)⟩])
                            (.seq
                             (.ops [⟨some 87, none, .mv (.t 11)⟩,
                               ⟨some 88, none, .mv (.t 2)⟩,
                               ⟨some 89, none, .call 57 [.t 87, .t 88]⟩,
                               ⟨some 90, none, .mv (.t 13)⟩,
                               ⟨some 91, none, .bin .neq (.t 89) (.t 90)⟩])
                             (.keep [0, 1, 2, 9, 11, 81, 82, 83, 91]
                              (.cond (.t 91)
                               (.seq
                                (.ops [⟨some 6, none, .mv (.k (.bool false))⟩])
                                .ret)
                               .skip)))))
                          (.keep [0, 1, 2, 9, 11, 81, 82, 83]
                           (.ops [⟨some 92, none, .bin .add (.t 83) (.k (.int .i64 1))⟩,
                             ⟨some 83, none, .mv (.t 92)⟩]))))))))))
                  (.keep [0, 1, 2, 9, 11]
                   (.seq
                    (.seq
                     (.ops [⟨some 93, none, .mv (.t 1)⟩,
                       ⟨some 94, none, .lenS (.t 93)⟩,
                       ⟨some 95, none, .mv (.k (.int .i64 0))⟩])
                     (.keep [0, 1, 2, 9, 11, 93, 94, 95]
                      (.block 2
                       (.loop
                        (.seq
                         (.ops [⟨some 96, none, .bin .lss (.t 95) (.t 94)⟩])
                         (.seq
                          (.cond (.t 96)
                           .skip
                           (.exit 2))
                          (.keep [0, 1, 2, 9, 11, 93, 94, 95]
                           (.seq
                            (.block 3
                             (.seq
                              (.ops [⟨some 97, none, .idxS 1 (.t 93) (.t 95)⟩,
                                ⟨some 98, none, .load false 1 (.t 97)⟩,
                                ⟨some 15, none, .mv (.t 98)⟩])
                              (.seq
                               (.ops [⟨some 99, none, .mv (.t 11)⟩,
                                 ⟨some 100, none, .mv (.t 2)⟩,
                                 ⟨some 101, none, .call 76 [.t 99, .t 100]⟩,
                                 ⟨some 102, none, .mv (.t 15)⟩,
                                 ⟨some 103, none, .bin .neq (.t 101) (.t 102)⟩])
                               (.keep [0, 1, 2, 9, 11, 93, 94, 95, 103]
                                (.cond (.t 103)
                                 (.seq
                                  (.ops [⟨some 6, none, .mv (.k (.bool false))⟩])
                                  .ret)
                                 .skip)))))
                            (.keep [0, 1, 2, 9, 11, 93, 94, 95]
                             (.ops [⟨some 104, none, .bin .add (.t 95) (.k (.int .i64 1))⟩,
                               ⟨some 95, none, .mv (.t 104)⟩]))))))))))
                    (.keep [0, 1, 2, 9, 11]
                     (.seq
                      (.seq
                       (.ops [⟨some 105, none, .mv (.t 11)⟩,
                         ⟨some 106, none, .call 60 [.t 105]⟩,
                         ⟨some 107, none, .bin .neq (.t 106) (.k (.int .i64 0))⟩,
                         ⟨some 108, none, .mv (.t 107)⟩,
                         ⟨some 109, some (108, false), .mv (.t 11)⟩,
                         ⟨some 110, some (108, false), .call 68 [.t 109]⟩,
                         ⟨some 111, some (108, false), .bin .neq (.t 110) (.k (.int .i64 0))⟩,
                         ⟨some 112, none, .pick (.t 108) (.k (.bool true)) (.t 111)⟩,
                         ⟨some 113, none, .mv (.t 112)⟩,
                         ⟨some 114, some (113, false), .mv (.t 9)⟩,
                         ⟨some 115, some (113, false), .lenS (.t 114)⟩,
                         ⟨some 116, some (113, false), .mv (.t 2)⟩,
                         ⟨some 117, some (113, false), .mv (.t 0)⟩,
                         ⟨some 118, some (113, false), .lenS (.t 117)⟩,
                         ⟨some 119, some (113, false), .mv (.t 1)⟩,
                         ⟨some 120, some (113, false), .lenS (.t 119)⟩,
                         ⟨some 121, some (113, false), .bin .add (.t 118) (.t 120)⟩,
                         ⟨some 122, some (113, false), .bin .mul (.t 116) (.t 121)⟩,
                         ⟨some 123, some (113, false), .bin .neq (.t 115) (.t 122)⟩,
                         ⟨some 124, none, .pick (.t 113) (.k (.bool true)) (.t 123)⟩])
                       (.keep [0, 1, 2, 9, 124]
                        (.cond (.t 124)
                         (.seq
                          (.ops [⟨some 6, none, .mv (.k (.bool false))⟩])
                          .ret)
                         .skip)))
                      (.keep [0, 1, 2, 9]
                       (.seq
                        (.seq
                         (.ops [⟨some 125, none, .mv (.t 9)⟩,
                           ⟨some 126, none, .lenS (.t 125)⟩,
                           ⟨some 127, none, .bin .eql (.t 126) (.k (.int .i64 0))⟩])
                         (.cond (.t 127)
                          (.seq
                           (.ops [⟨some 128, none, .call 73 []⟩,
                             ⟨some 6, none, .mv (.t 128)⟩])
                           .ret)
                          .skip))
                        (.keep [0, 1, 2, 9]
                         (.seq
                          (.ops [⟨some 129, none, .mv (.t 9)⟩,
                            ⟨some 130, none, .mv (.t 9)⟩,
                            ⟨some 131, none, .lenS (.t 130)⟩,
                            ⟨some 132, none, .bin .sub (.t 131) (.k (.int .i64 1))⟩,
                            ⟨some 133, none, .slcS 4 1 (.t 129) none (some (.t 132)) none⟩,
                            ⟨some 134, none, .call 56 [.t 133]⟩,
                            ⟨some 16, none, .mv (.t 134)⟩])
                          (.keep [0, 1, 2, 16]
                           (.seq
                            (.seq
                             (.ops [⟨some 135, none, .mv (.t 16)⟩,
                               ⟨some 136, none, .isn false (.t 135)⟩])
                             (.cond (.t 136)
                              (.seq
                               (.ops [⟨some 6, none, .mv (.k (.bool false))⟩])
                               .ret)
                              .skip))
                            (.keep [0, 1, 2, 16]
                             (.seq
                              (.seq
                               (.ops [⟨some 137, none, .mv (.t 0)⟩,
                                 ⟨some 138, none, .lenS (.t 137)⟩,
                                 ⟨some 139, none, .mv (.t 1)⟩,
                                 ⟨some 140, none, .lenS (.t 139)⟩,
                                 ⟨some 141, none, .bin .add (.t 138) (.t 140)⟩,
                                 ⟨some 142, none, .mv (.k (.int .i64 0))⟩])
                               (.keep [2, 16, 141, 142]
                                (.block 4
                                 (.loop
                                  (.seq
                                   (.ops [⟨some 143, none, .bin .lss (.t 142) (.t 141)⟩])
                                   (.seq
                                    (.cond (.t 143)
                                     .skip
                                     (.exit 4))
                                    (.keep [2, 16, 141, 142]
                                     (.seq
                                      (.block 5
                                       (.ops [⟨some 144, none, .mv (.t 16)⟩,
                                         ⟨some 145, none, .mv (.t 2)⟩,
                                         ⟨some 146, none, .call 57 [.t 144, .t 145]⟩]))
                                      (.keep [2, 16, 141, 142]
                                       (.ops [⟨some 147, none, .bin .add (.t 142) (.k (.int .i64 1))⟩,
                                         ⟨some 142, none, .mv (.t 147)⟩]))))))))))
                              (.keep [16]
                               (.seq
                                (.ops [⟨some 148, none, .mv (.t 16)⟩,
                                  ⟨some 149, none, .call 65 [.t 148]⟩,
                                  ⟨some 150, none, .bin .eql (.t 149) (.k (.int .i64 4))⟩,
                                  ⟨some 151, none, .mv (.t 150)⟩,
                                  ⟨some 152, some (151, true), .call 73 []⟩,
                                  ⟨some 153, none, .pick (.t 151) (.t 152) (.k (.bool false))⟩,
                                  ⟨some 6, none, .mv (.t 153)⟩])
                                (.keep [6]
                                 .ret)))))))))))))))))))))))))))))))) }
structure N79 (R : Env) : Prop where
  o79 : R.Fn 79 c79
  n54 : N54 R
  n56 : N56 R
  n57 : N57 R
  n60 : N60 R
  n65 : N65 R
  n68 : N68 R
  n71 : N71 R
  n73 : N73 R
  n76 : N76 R
end Go.UM

/- Bytes and rows of numbers. -/

namespace Go.UM
open Go.AM

/-- The byte of a number. -/
def u8 (n : Int) : UInt8 := UInt8.ofNat (n % 256).toNat
theorem wr_u8 (n : Int) : wr .u8 n = ((u8 n).toNat : Int) := by
  have h1 : 0 ≤ n % 256 := Int.emod_nonneg _ (by decide)
  have h2 : n % 256 < 256 := Int.emod_lt_of_pos _ (by decide)
  simp only [wr, IntKind.wrap, IntKind.bits, IntKind.signed, u8]
  simp
  omega
theorem u8_mod (n : Int) : u8 (n % 256) = u8 n := by unfold u8; rw [Int.emod_emod_of_dvd n (Int.dvd_refl 256)]
theorem u8_tmod {n : Int} (h : 0 ≤ n) : u8 (n.tmod 256) = u8 n := by rw [Int.tmod_eq_emod_of_nonneg h, u8_mod]
theorem u8_toNat (c : UInt8) : u8 (c.toNat : Int) = c := by
  have := c.toNat_lt
  unfold u8
  rw [show ((c.toNat : Int) % 256).toNat = c.toNat by omega]
  simp

/-- Bytes, and numbers, as the elements of a slice. -/
def slc8 (l : List UInt8) : List (List AV) := l.map fun c => [.int .u8 c.toNat]
def slcK (k : IntKind) (l : List Int) : List (List AV) := l.map fun x => [.int k x]
@[simp] theorem slc8_nil : slc8 [] = [] := rfl
@[simp] theorem slc8_length (l : List UInt8) : (slc8 l).length = l.length := by simp [slc8]
@[simp] theorem slc8_append (a b : List UInt8) : slc8 (a ++ b) = slc8 a ++ slc8 b := by simp [slc8]
@[simp] theorem slc8_one (n : Int) : [[AV.int .u8 (wr .u8 n)]] = slc8 [u8 n] := by simp [slc8, wr_u8]
@[simp] theorem slcK_nil (k : IntKind) : slcK k [] = [] := rfl
@[simp] theorem slcK_length (k : IntKind) (l : List Int) : (slcK k l).length = l.length := by simp [slcK]
@[simp] theorem slcK_append (k : IntKind) (a b : List Int) : slcK k (a ++ b) = slcK k a ++ slcK k b := by simp [slcK]
theorem slcK_one (k : IntKind) (n : Int) : [[AV.int k n]] = slcK k [n] := rfl
@[simp] theorem slc8_NmL (l : List UInt8) : NmL (slc8 l) := by simp [slc8]
@[simp] theorem slcK_NmL (k : IntKind) (l : List Int) : NmL (slcK k l) := by simp [slcK]
@[simp] theorem slc8_FlL (l : List UInt8) : FlL (slc8 l) := by simp [slc8]
@[simp] theorem slcK_FlL (k : IntKind) (l : List Int) : FlL (slcK k l) := by simp [slcK]
instance {l : List UInt8} : LenOf (slc8 l) l.length := ⟨slc8_length l⟩
instance {k : IntKind} {l : List Int} : LenOf (slcK k l) l.length := ⟨slcK_length k l⟩
@[simp] theorem mem_slc8 {e : List AV} {l : List UInt8} : e ∈ slc8 l ↔ ∃ c, c ∈ l ∧ [AV.int .u8 c.toNat] = e := by simp [slc8]
@[simp] theorem mem_slcK {k : IntKind} {e : List AV} {l : List Int} : e ∈ slcK k l ↔ ∃ c, c ∈ l ∧ [AV.int k c] = e := by simp [slcK]
theorem slc8_take (l : List UInt8) (k : Nat) : (slc8 l).take k = slc8 (l.take k) := by simp [slc8, List.map_take]
theorem slc8_drop (l : List UInt8) (k : Nat) : (slc8 l).drop k = slc8 (l.drop k) := by simp [slc8, List.map_drop]
theorem slcK_take (k' : IntKind) (l : List Int) (k : Nat) : (slcK k' l).take k = slcK k' (l.take k) := by simp [slcK, List.map_take]
theorem slcK_drop (k' : IntKind) (l : List Int) (k : Nat) : (slcK k' l).drop k = slcK k' (l.drop k) := by simp [slcK, List.map_drop]
theorem slc8_inj {a b : List UInt8} (h : slc8 a = slc8 b) : a = b := by
  have := congrArg (List.map fun e : List AV => match e with | [.int _ n] => u8 n | _ => 0) h
  simpa [slc8, List.map_map, Function.comp_def, u8_toNat] using this
theorem get8 {l : List UInt8} {i : Nat} {x : UInt8} (h : l[i]? = some x) {K : List AV → Prop} (k : K [.int .u8 x.toNat]) : EGet (slc8 l) i K := eget_map h k
theorem getK {kk : IntKind} {l : List Int} {i : Nat} {x : Int} (h : l[i]? = some x) {K : List AV → Prop} (k : K [.int kk x]) : EGet (slcK kk l) i K := eget_map h k

theorem take_succ_get {α : Type} {l : List α} {k : Nat} {x : α} (h : l[k]? = some x) : l.take (k + 1) = l.take k ++ [x] := by
  rw [List.take_add_one, h]; rfl

theorem shr_eq {k : IntKind} {x y : Int} (hx : 0 ≤ x) : shrI k x y = x / 2 ^ (min y.toNat k.bits) := by
  unfold shrI
  rw [Int.fdiv_eq_ediv_of_nonneg]
  exact Int.le_of_lt (Int.pow_pos (by decide))
theorem aS8 {s : List UInt8} {K : List UInt8 → Prop} (k : K s) : AStr (slc8 s) K := ⟨⟨s, rfl, k⟩⟩
theorem take_cap {α : Type} (l : List α) (m : Int) : l.take (min (l.length : Int) m).toNat = l.take m.toNat := by
  by_cases h : (l.length : Int) ≤ m
  · rw [show (min (l.length : Int) m).toNat = l.length by omega, List.take_of_length_le (Nat.le_refl _), List.take_of_length_le (by omega)]
  · rw [show (min (l.length : Int) m).toNat = m.toNat by omega]
theorem cap8 (b : List UInt8) (m : Int) : (slc8 b).take (min (b.length : Int) m).toNat = slc8 (b.take m.toNat) := by rw [slc8_take, take_cap]
theorem capK (k : IntKind) (b : List Int) (m : Int) : (slcK k b).take (min (b.length : Int) m).toNat = slcK k (b.take m.toNat) := by rw [slcK_take, take_cap]
instance {l : List UInt8} {k : Nat} : TkOf ((slc8 l).take k) (slc8 (l.take k)) := ⟨slc8_take l k⟩
instance {l : List UInt8} {k : Nat} : TkOf ((slc8 l).drop k) (slc8 (l.drop k)) := ⟨slc8_drop l k⟩
instance {l : List UInt8} {k j : Nat} : TkOf (((slc8 l).take k).drop j) (slc8 ((l.take k).drop j)) := ⟨by rw [slc8_take, slc8_drop]⟩
instance {kk : IntKind} {l : List Int} {k : Nat} : TkOf ((slcK kk l).take k) (slcK kk (l.take k)) := ⟨slcK_take kk l k⟩
instance {kk : IntKind} {l : List Int} {k : Nat} : TkOf ((slcK kk l).drop k) (slcK kk (l.drop k)) := ⟨slcK_drop kk l k⟩
instance {kk : IntKind} {l : List Int} {k j : Nat} : TkOf (((slcK kk l).take k).drop j) (slcK kk ((l.take k).drop j)) := ⟨by rw [slcK_take, slcK_drop]⟩
end Go.UM

/- Package codec: what each function hands back. -/


namespace Go.UM
open Go.AM
set_option maxRecDepth 4000

theorem clone8_c {R : Env} (h : N62 R) (l : List UInt8) (hl : l.length ≤ 1073741824) :
    R.Mc 62 [.isl 1 (slc8 l)] [] (.osl 0 l.length) [(0, .arr (R.ty 4) 1 (slc8 l))] 1 :=
  h.o62.enterM 60 0 rfl rfl rfl fun X b hfit hp => by
    repeat ((intro _u; clear _u); first | with_reducible first | refine cT ?_ | refine cF ?_ | refine cA ?_ | refine cB ?_ | refine aLn ?_ | refine cK ?_ | refine aS8 ?_ | refine wI ?_ | refine nD ?_ | refine aX rfl ?_)
    intro _u; clear _u
    refine ANil.mk (fun hn => ?_) ?_
    · have : l = [] := by simpa [slc8] using hn
      subst this
      repeat ((intro _u; clear _u); first | with_reducible first | refine cT ?_ | refine cF ?_ | refine cA ?_ | refine cB ?_ | refine aLn ?_ | refine cK ?_ | refine aS8 ?_ | refine wI ?_ | refine nD ?_ | refine aX rfl ?_)
      intro _u; clear _u
      exact rM [50]
    · repeat ((intro _u; clear _u); first | with_reducible first | refine cT ?_ | refine cF ?_ | refine cA ?_ | refine cB ?_ | refine aLn ?_ | refine cK ?_ | refine aS8 ?_ | refine wI ?_ | refine nD ?_ | refine aX rfl ?_)
      intro _u; clear _u
      exact rM [0]

/-- A number's bytes, and whether they hold it. -/
def enc (w : Nat) (x : Int) : List UInt8 := (List.range w).map fun i => u8 (x / 256 ^ i)
def puts (b : List UInt8) (w : Int) (n : List Int) : List UInt8 × Int :=
  if w < 1 ∨ 8 < w then ([], 2) else if n.any (fun x => decide (256 ^ w.toNat ≤ x)) = true then ([], 3) else (b ++ n.flatMap (enc w.toNat), 0)

theorem flatMap_len (w : Nat) : ∀ l : List Int, (l.flatMap (enc w)).length = w * l.length
  | [] => by simp
  | x :: r => by simp [flatMap_len w r, enc, Nat.mul_add]; omega

theorem put_room {b : List UInt8} {n : List Int} {w : Int} {k : Nat} {i : Nat} {x : Int} (hl : b.length + 8 * n.length ≤ 1073741824) (hw : w ≤ 8) (hw1 : 1 ≤ w) (hk : (k : Int) < n.length) (hi : (i : Int) < w) : (b ++ (n.take k).flatMap (enc w.toNat) ++ enc i x).length + 1 ≤ 1073741824 := by
  have h1 : w.toNat * (n.take k).length ≤ 8 * k := Nat.mul_le_mul (by omega) (by simp; omega)
  simp only [List.length_append, flatMap_len]
  have : (enc i x).length = i := by simp [enc]
  omega

theorem enc_succ (i : Nat) (x : Int) : enc (i + 1) x = enc i x ++ [u8 (x / 256 ^ i)] := by simp [enc, List.range_succ]
@[simp] theorem enc_zero (x : Int) : enc 0 x = [] := rfl
@[simp] theorem enc_length (w : Nat) (x : Int) : (enc w x).length = w := by simp [enc]

theorem shr_enc {x : Int} {i : Nat} (hx : 0 ≤ x) (hi : i < 8) : shrI .u64 x (8 * (i : Int)) = x / 256 ^ i := by
  rw [shr_eq hx]
  have h : (8 * (i : Int)).toNat = 8 * i := by omega
  rw [h, show min (8 * i) (IntKind.bits .u64) = 8 * i by simp [IntKind.bits]; omega, Int.pow_mul]
  rfl

theorem shr_big {x w : Int} (hx : 0 ≤ x) (h1 : 1 ≤ w) (h8 : w < 8) : 0 < shrI .u64 x (8 * w) ↔ 256 ^ w.toNat ≤ x := by
  obtain ⟨i, rfl⟩ : ∃ i : Nat, w = i := ⟨w.toNat, by omega⟩
  rw [shr_enc hx (by omega), Int.toNat_natCast]
  have hp : (0 : Int) < 256 ^ i := Int.pow_pos (by decide)
  constructor
  · intro h
    have := (Int.le_ediv_iff_mul_le hp).1 (show 1 ≤ x / 256 ^ i from h)
    rwa [Int.one_mul] at this
  · intro h
    show 1 ≤ x / 256 ^ i
    exact (Int.le_ediv_iff_mul_le hp).2 (by rw [Int.one_mul]; exact h)

theorem any_take_succ {n : List Int} {k : Nat} {x : Int} {p : Int → Bool} (h : n[k]? = some x) : (n.take (k + 1)).any p = ((n.take k).any p || p x) := by
  rw [take_succ_get h]; simp

theorem puts_bad {b : List UInt8} {w : Int} {n : List Int} {x : Int} (h1 : 1 ≤ w) (h2 : w ≤ 8) (hx : x ∈ n) (h : 256 ^ w.toNat ≤ x) : puts b w n = ([], 3) := by
  unfold puts
  rw [if_neg (by omega), if_pos]
  simp only [List.any_eq_true, decide_eq_true_eq]
  exact ⟨x, hx, h⟩
theorem puts_ok {b : List UInt8} {w : Int} {n : List Int} (h1 : 1 ≤ w) (h2 : w ≤ 8) (h : n.any (fun x => decide (256 ^ w.toNat ≤ x)) = false) : puts b w n = (b ++ n.flatMap (enc w.toNat), 0) := by
  unfold puts
  rw [if_neg (by omega), if_neg (by rw [h]; decide)]


theorem put_c {R : Env} (h : N54 R) (b : List UInt8) (w : Int) (n : List Int) (hl : b.length + 8 * n.length ≤ 1073741824) (hn : ∀ x ∈ n, 0 ≤ x ∧ x ≤ 18446744073709551615) :
    R.Mc 54 [.isl 1 (slc8 b), .int .i64 w, .isl 1 (slcK .u64 n)] [] (.tup [.osl 0 (puts b w n).1.length, .int .i64 (puts b w n).2]) [(0, .arr (R.ty 4) 1 (slc8 (puts b w n).1))] 1 :=
  h.o54.enterM 100 0 rfl rfl rfl fun X bb hfit hp => by
    generalize hq : puts b w n = q
    repeat ((intro _u; clear _u); first | with_reducible first | refine cT ?_ | refine cF ?_ | refine cA ?_ | refine cB ?_ | refine aLn ?_ | refine cK ?_ | refine aS8 ?_ | refine wI ?_ | refine nD ?_ | refine aX rfl ?_)
    intro _u; clear _u
    refine cS (fun h1 => ?_) (fun h1 => ?_)
    · rw [puts, if_pos (.inl h1)] at hq
      subst hq
      repeat ((intro _u; clear _u); first | with_reducible first | refine cT ?_ | refine cF ?_ | refine cA ?_ | refine cB ?_ | refine aLn ?_ | refine cK ?_ | refine aS8 ?_ | refine wI ?_ | refine nD ?_ | refine aX rfl ?_)
      intro _u; clear _u
      exact rM [50]
    · repeat ((intro _u; clear _u); first | with_reducible first | refine cT ?_ | refine cF ?_ | refine cA ?_ | refine cB ?_ | refine aLn ?_ | refine cK ?_ | refine aS8 ?_ | refine wI ?_ | refine nD ?_ | refine aX rfl ?_)
      intro _u; clear _u
      refine cS (fun h2 => ?_) (fun h2 => ?_)
      · rw [puts, if_pos (.inr h2)] at hq
        subst hq
        repeat ((intro _u; clear _u); first | with_reducible first | refine cT ?_ | refine cF ?_ | refine cA ?_ | refine cB ?_ | refine aLn ?_ | refine cK ?_ | refine aS8 ?_ | refine wI ?_ | refine nD ?_ | refine aX rfl ?_)
        intro _u; clear _u
        exact rM [50]
      · repeat ((intro _u; clear _u); first | with_reducible first | refine cT ?_ | refine cF ?_ | refine cA ?_ | refine cB ?_ | refine aLn ?_ | refine cK ?_ | refine aS8 ?_ | refine wI ?_ | refine nD ?_ | refine aX rfl ?_)
        intro _u; clear _u
        refine cM false [] (clone8_c h.n62 b (by omega)) ?_
        repeat ((intro _u; clear _u); first | refine eK ?_ | refine eP ?_)
        repeat ((intro _u; clear _u); first | with_reducible first | refine cT ?_ | refine cF ?_ | refine cA ?_ | refine cB ?_ | refine aLn ?_ | refine cK ?_ | refine aS8 ?_ | refine wI ?_ | refine nD ?_ | refine aX rfl ?_)
        intro _u; clear _u
        refine lPa 100 (fun k : Nat => k ≤ n.length ∧ (n.take k).any (fun x => decide (256 ^ w.toNat ≤ x)) = false) (fun k => ⟨[(1, .int .i64 w), (8, .osl 0 (b ++ (n.take k).flatMap (enc w.toNat)).length), (20, .isl 1 (slcK .u64 n)), (21, .int .i64 n.length), (22, .int .i64 k)], [(0, .arr (R.ty 4) 1 (slc8 (b ++ (n.take k).flatMap (enc w.toNat))))], 1⟩) (fun k => n.length - k) (0) ?_ ?_
        · exact ⟨Nat.zero_le _, by simp⟩
        · intro k hk
          dsimp only
          repeat ((intro _u; clear _u); first | with_reducible first | refine cT ?_ | refine cF ?_ | refine cA ?_ | refine cB ?_ | refine aLn ?_ | refine cK ?_ | refine aS8 ?_ | refine wI ?_ | refine nD ?_ | refine aX rfl ?_)
          intro _u; clear _u
          refine cS (fun h3 => ?_) (fun h3 => ?_)
          · obtain ⟨x, hx⟩ : ∃ x, n[k]? = some x := ⟨_, List.getElem?_eq_getElem (by first | omega | (simp <;> omega))⟩
            repeat ((intro _u; clear _u); first | with_reducible first | refine cT ?_ | refine cF ?_ | refine cA ?_ | refine cB ?_ | refine aLn ?_ | refine cK ?_ | refine aS8 ?_ | refine wI ?_ | refine nD ?_ | refine aX rfl ?_)
            intro _u; clear _u
            refine eget_map hx ?_
            have hxk := hx
            have hx := hn x (List.mem_of_getElem? hxk)
            repeat ((intro _u; clear _u); first | with_reducible first | refine cT ?_ | refine cF ?_ | refine cA ?_ | refine cB ?_ | refine aLn ?_ | refine cK ?_ | refine aS8 ?_ | refine wI ?_ | refine nD ?_ | refine aX rfl ?_)
            intro _u; clear _u
            refine cS (fun h4 => ?_) (fun h4 => ?_)
            · repeat ((intro _u; clear _u); first | with_reducible first | refine cT ?_ | refine cF ?_ | refine cA ?_ | refine cB ?_ | refine aLn ?_ | refine cK ?_ | refine aS8 ?_ | refine wI ?_ | refine nD ?_ | refine aX rfl ?_)
              intro _u; clear _u
              refine cS (fun h5 => ?_) (fun h5 => ?_)
              · rw [puts_bad (by omega) (by omega) (List.mem_of_getElem? hxk) ((shr_big hx.1 (by omega) h4).1 h5)] at hq
                subst hq
                repeat ((intro _u; clear _u); first | with_reducible first | refine cT ?_ | refine cF ?_ | refine cA ?_ | refine cB ?_ | refine aLn ?_ | refine cK ?_ | refine aS8 ?_ | refine wI ?_ | refine nD ?_ | refine aX rfl ?_)
                intro _u; clear _u
                exact rM [50]
              · have hnb : ¬ 256 ^ w.toNat ≤ x := fun hb => absurd ((shr_big hx.1 (by omega) h4).2 hb) (by omega)
                repeat ((intro _u; clear _u); first | with_reducible first | refine cT ?_ | refine cF ?_ | refine cA ?_ | refine cB ?_ | refine aLn ?_ | refine cK ?_ | refine aS8 ?_ | refine wI ?_ | refine nD ?_ | refine aX rfl ?_)
                intro _u; clear _u
                refine lPa 100 (fun i : Nat => (i : Int) ≤ w) (fun i => ⟨[(1, .int .i64 w), (8, .osl 0 (b ++ (n.take k).flatMap (enc w.toNat) ++ enc i x).length), (10, .int .u64 x), (20, .isl 1 (slcK .u64 n)), (21, .int .i64 n.length), (22, .int .i64 k), (35, .int .i64 w), (36, .int .i64 i)], [(0, .arr (R.ty 4) 1 (slc8 (b ++ (n.take k).flatMap (enc w.toNat) ++ enc i x)))], 1⟩) (fun i => w.toNat - i) (0) ?_ ?_
                · show (0 : Int) ≤ w
                  omega
                · intro i hi
                  dsimp only
                  repeat ((intro _u; clear _u); first | with_reducible first | refine cT ?_ | refine cF ?_ | refine cA ?_ | refine cB ?_ | refine aLn ?_ | refine cK ?_ | refine aS8 ?_ | refine wI ?_ | refine nD ?_ | refine aX rfl ?_)
                  intro _u; clear _u
                  refine cS (fun h6 => ?_) (fun h6 => ?_)
                  · repeat ((intro _u; clear _u); first | with_reducible first | refine cT ?_ | refine cF ?_ | refine cA ?_ | refine cB ?_ | refine aLn ?_ | refine cK ?_ | refine aS8 ?_ | refine wI ?_ | refine nD ?_ | refine aX rfl ?_)
                    intro _u; clear _u
                    rw [shr_enc hx.1 (by omega)]
                    refine iwr_any ?_
                    repeat ((intro _u; clear _u); first | with_reducible first | refine cT ?_ | refine cF ?_ | refine cA ?_ | refine cB ?_ | refine aLn ?_ | refine cK ?_ | refine aS8 ?_ | refine wI ?_ | refine nD ?_ | refine aX rfl ?_)
                    intro _u; clear _u
                    refine ⟨by rw [slc8_length]; exact put_room hl h2 h1 h3 h6, ?_⟩
                    repeat ((intro _u; clear _u); first | with_reducible first | refine cT ?_ | refine cF ?_ | refine cA ?_ | refine cB ?_ | refine aLn ?_ | refine cK ?_ | refine aS8 ?_ | refine wI ?_ | refine nD ?_ | refine aX rfl ?_)
                    intro _u; clear _u
                    refine nX (i + 1) ?_ ?_ ⟨_, hp, rfl⟩ ?_ ?_
                    · omega
                    · omega
                    · all_goals repeat' (first | exact True.intro | refine And.intro ?_ ?_ | (intro _u; clear _u) | with_reducible first | refine eM ?_ ?_ | refine eF ?_ ?_ ?_ | refine eN ?_ | refine eL ?_ ?_ ?_ | refine eA ?_ ?_ | refine IWk.mk ⟨_, hp, rfl⟩ ?_ ?_)
                      all_goals first | with_reducible rfl | omega | exact Or.inl (by decide) | (simp; done) | rfl | skip
                    · all_goals repeat' (first | exact True.intro | refine And.intro ?_ ?_ | (intro _u; clear _u) | with_reducible first | refine eM ?_ ?_ | refine eF ?_ ?_ ?_ | refine eN ?_ | refine eL ?_ ?_ ?_ | refine eA ?_ ?_ | refine IWk.mk ⟨_, hp, rfl⟩ ?_ ?_)
                      all_goals first | with_reducible rfl | omega | exact Or.inl (by decide) | (simp; done) | rfl | skip
                      simp [enc_succ]
                  · repeat ((intro _u; clear _u); first | with_reducible first | refine cT ?_ | refine cF ?_ | refine cA ?_ | refine cB ?_ | refine aLn ?_ | refine cK ?_ | refine aS8 ?_ | refine wI ?_ | refine nD ?_ | refine aX rfl ?_)
                    intro _u; clear _u
                    refine nX (k + 1) ?_ ?_ ⟨_, hp, rfl⟩ ?_ ?_
                    · refine ⟨by omega, ?_⟩
                      rw [any_take_succ hxk, hk.2, decide_eq_false hnb]; rfl
                    · omega
                    · all_goals repeat' (first | exact True.intro | refine And.intro ?_ ?_ | (intro _u; clear _u) | with_reducible first | refine eM ?_ ?_ | refine eF ?_ ?_ ?_ | refine eN ?_ | refine eL ?_ ?_ ?_ | refine eA ?_ ?_ | refine IWk.mk ⟨_, hp, rfl⟩ ?_ ?_)
                      all_goals first | with_reducible rfl | omega | exact Or.inl (by decide) | (simp; done) | rfl | skip
                      rw [take_succ_get hxk, show i = w.toNat by omega]; simp
                    · all_goals repeat' (first | exact True.intro | refine And.intro ?_ ?_ | (intro _u; clear _u) | with_reducible first | refine eM ?_ ?_ | refine eF ?_ ?_ ?_ | refine eN ?_ | refine eL ?_ ?_ ?_ | refine eA ?_ ?_ | refine IWk.mk ⟨_, hp, rfl⟩ ?_ ?_)
                      all_goals first | with_reducible rfl | omega | exact Or.inl (by decide) | (simp; done) | rfl | skip
                      rw [take_succ_get hxk, show i = w.toNat by omega]; simp
            · have hnb : ¬ 256 ^ w.toNat ≤ x := by rw [show w.toNat = 8 by omega]; omega
              repeat ((intro _u; clear _u); first | with_reducible first | refine cT ?_ | refine cF ?_ | refine cA ?_ | refine cB ?_ | refine aLn ?_ | refine cK ?_ | refine aS8 ?_ | refine wI ?_ | refine nD ?_ | refine aX rfl ?_)
              intro _u; clear _u
              refine lPa 100 (fun i : Nat => (i : Int) ≤ w) (fun i => ⟨[(1, .int .i64 w), (8, .osl 0 (b ++ (n.take k).flatMap (enc w.toNat) ++ enc i x).length), (10, .int .u64 x), (20, .isl 1 (slcK .u64 n)), (21, .int .i64 n.length), (22, .int .i64 k), (35, .int .i64 w), (36, .int .i64 i)], [(0, .arr (R.ty 4) 1 (slc8 (b ++ (n.take k).flatMap (enc w.toNat) ++ enc i x)))], 1⟩) (fun i => w.toNat - i) (0) ?_ ?_
              · show (0 : Int) ≤ w
                omega
              · intro i hi
                dsimp only
                repeat ((intro _u; clear _u); first | with_reducible first | refine cT ?_ | refine cF ?_ | refine cA ?_ | refine cB ?_ | refine aLn ?_ | refine cK ?_ | refine aS8 ?_ | refine wI ?_ | refine nD ?_ | refine aX rfl ?_)
                intro _u; clear _u
                refine cS (fun h6 => ?_) (fun h6 => ?_)
                · repeat ((intro _u; clear _u); first | with_reducible first | refine cT ?_ | refine cF ?_ | refine cA ?_ | refine cB ?_ | refine aLn ?_ | refine cK ?_ | refine aS8 ?_ | refine wI ?_ | refine nD ?_ | refine aX rfl ?_)
                  intro _u; clear _u
                  rw [shr_enc hx.1 (by omega)]
                  refine iwr_any ?_
                  repeat ((intro _u; clear _u); first | with_reducible first | refine cT ?_ | refine cF ?_ | refine cA ?_ | refine cB ?_ | refine aLn ?_ | refine cK ?_ | refine aS8 ?_ | refine wI ?_ | refine nD ?_ | refine aX rfl ?_)
                  intro _u; clear _u
                  refine ⟨by rw [slc8_length]; exact put_room hl h2 h1 h3 h6, ?_⟩
                  repeat ((intro _u; clear _u); first | with_reducible first | refine cT ?_ | refine cF ?_ | refine cA ?_ | refine cB ?_ | refine aLn ?_ | refine cK ?_ | refine aS8 ?_ | refine wI ?_ | refine nD ?_ | refine aX rfl ?_)
                  intro _u; clear _u
                  refine nX (i + 1) ?_ ?_ ⟨_, hp, rfl⟩ ?_ ?_
                  · omega
                  · omega
                  · all_goals repeat' (first | exact True.intro | refine And.intro ?_ ?_ | (intro _u; clear _u) | with_reducible first | refine eM ?_ ?_ | refine eF ?_ ?_ ?_ | refine eN ?_ | refine eL ?_ ?_ ?_ | refine eA ?_ ?_ | refine IWk.mk ⟨_, hp, rfl⟩ ?_ ?_)
                    all_goals first | with_reducible rfl | omega | exact Or.inl (by decide) | (simp; done) | rfl | skip
                  · all_goals repeat' (first | exact True.intro | refine And.intro ?_ ?_ | (intro _u; clear _u) | with_reducible first | refine eM ?_ ?_ | refine eF ?_ ?_ ?_ | refine eN ?_ | refine eL ?_ ?_ ?_ | refine eA ?_ ?_ | refine IWk.mk ⟨_, hp, rfl⟩ ?_ ?_)
                    all_goals first | with_reducible rfl | omega | exact Or.inl (by decide) | (simp; done) | rfl | skip
                    simp [enc_succ]
                · repeat ((intro _u; clear _u); first | with_reducible first | refine cT ?_ | refine cF ?_ | refine cA ?_ | refine cB ?_ | refine aLn ?_ | refine cK ?_ | refine aS8 ?_ | refine wI ?_ | refine nD ?_ | refine aX rfl ?_)
                  intro _u; clear _u
                  refine nX (k + 1) ?_ ?_ ⟨_, hp, rfl⟩ ?_ ?_
                  · refine ⟨by omega, ?_⟩
                    rw [any_take_succ hxk, hk.2, decide_eq_false hnb]; rfl
                  · omega
                  · all_goals repeat' (first | exact True.intro | refine And.intro ?_ ?_ | (intro _u; clear _u) | with_reducible first | refine eM ?_ ?_ | refine eF ?_ ?_ ?_ | refine eN ?_ | refine eL ?_ ?_ ?_ | refine eA ?_ ?_ | refine IWk.mk ⟨_, hp, rfl⟩ ?_ ?_)
                    all_goals first | with_reducible rfl | omega | exact Or.inl (by decide) | (simp; done) | rfl | skip
                    rw [take_succ_get hxk, show i = w.toNat by omega]; simp
                  · all_goals repeat' (first | exact True.intro | refine And.intro ?_ ?_ | (intro _u; clear _u) | with_reducible first | refine eM ?_ ?_ | refine eF ?_ ?_ ?_ | refine eN ?_ | refine eL ?_ ?_ ?_ | refine eA ?_ ?_ | refine IWk.mk ⟨_, hp, rfl⟩ ?_ ?_)
                    all_goals first | with_reducible rfl | omega | exact Or.inl (by decide) | (simp; done) | rfl | skip
                    rw [take_succ_get hxk, show i = w.toNat by omega]; simp
          · have hkn : n.take k = n := List.take_of_length_le (by omega)
            rw [hkn] at hk ⊢
            rw [puts_ok (by omega) (by omega) hk.2] at hq
            subst hq
            repeat ((intro _u; clear _u); first | with_reducible first | refine cT ?_ | refine cF ?_ | refine cA ?_ | refine cB ?_ | refine aLn ?_ | refine cK ?_ | refine aS8 ?_ | refine wI ?_ | refine nD ?_ | refine aX rfl ?_)
            intro _u; clear _u
            exact rM [0]
end Go.UM

/- Bits of numbers; numbers of bytes. -/

namespace Go.UM
open Go.AM

theorem ofInt_toNat {n : Nat} {x : Int} (h0 : 0 ≤ x) (h1 : x < 2 ^ n) : (BitVec.ofInt n x).toNat = x.toNat := by
  rw [BitVec.toNat_ofInt]
  congr 1
  apply Int.emod_eq_of_lt h0
  exact_mod_cast h1

theorem wr_nat_u64 {x : Nat} (h : x < 18446744073709551616) : wr .u64 (x : Int) = x := wr_in (k := .u64) ⟨by omega, by omega⟩
theorem wr_nat_u8 {x : Nat} (h : x < 256) : wr .u8 (x : Int) = x := wr_in (k := .u8) ⟨by omega, by omega⟩
theorem wr_nat_i64 {x : Nat} (h : x < 9223372036854775808) : wr .i64 (x : Int) = x := wr_in (k := .i64) ⟨by omega, by omega⟩

theorem or_u64 {x y : Int} (hx : 0 ≤ x ∧ x ≤ 18446744073709551615) (hy : 0 ≤ y ∧ y ≤ 18446744073709551615) : bit2 .or .u64 x y = ((x.toNat ||| y.toNat : Nat) : Int) := by
  have e : bit2 .or .u64 x y = wr .u64 ((BitVec.ofInt 64 x ||| BitVec.ofInt 64 y).toNat : Int) := rfl
  rw [e, BitVec.toNat_or, ofInt_toNat hx.1 (by omega), ofInt_toNat hy.1 (by omega)]
  apply wr_nat_u64
  exact Nat.or_lt_two_pow (n := 64) (by omega) (by omega)

theorem and_u64 {x y : Int} (hx : 0 ≤ x ∧ x ≤ 18446744073709551615) (hy : 0 ≤ y ∧ y ≤ 18446744073709551615) : bit2 .and .u64 x y = ((x.toNat &&& y.toNat : Nat) : Int) := by
  have e : bit2 .and .u64 x y = wr .u64 ((BitVec.ofInt 64 x &&& BitVec.ofInt 64 y).toNat : Int) := rfl
  rw [e, BitVec.toNat_and, ofInt_toNat hx.1 (by omega), ofInt_toNat hy.1 (by omega)]
  apply wr_nat_u64
  exact Nat.and_lt_two_pow (n := 64) _ (by omega)

theorem or_i64 {x y : Int} (hx : 0 ≤ x ∧ x ≤ 9223372036854775807) (hy : 0 ≤ y ∧ y ≤ 9223372036854775807) : bit2 .or .i64 x y = ((x.toNat ||| y.toNat : Nat) : Int) := by
  have e : bit2 .or .i64 x y = wr .i64 ((BitVec.ofInt 64 x ||| BitVec.ofInt 64 y).toNat : Int) := rfl
  rw [e, BitVec.toNat_or, ofInt_toNat hx.1 (by omega), ofInt_toNat hy.1 (by omega)]
  apply wr_nat_i64
  exact Nat.or_lt_two_pow (n := 63) (by omega) (by omega)

theorem and_i64 {x y : Int} (hx : 0 ≤ x ∧ x ≤ 9223372036854775807) (hy : 0 ≤ y ∧ y ≤ 9223372036854775807) : bit2 .and .i64 x y = ((x.toNat &&& y.toNat : Nat) : Int) := by
  have e : bit2 .and .i64 x y = wr .i64 ((BitVec.ofInt 64 x &&& BitVec.ofInt 64 y).toNat : Int) := rfl
  rw [e, BitVec.toNat_and, ofInt_toNat hx.1 (by omega), ofInt_toNat hy.1 (by omega)]
  apply wr_nat_i64
  exact Nat.and_lt_two_pow (n := 63) _ (by omega)

/-- The number of bytes, the least first. -/
def le : List UInt8 → Nat
  | [] => 0
  | c :: r => c.toNat + 256 * le r
theorem le_lt : ∀ l : List UInt8, le l < 256 ^ l.length
  | [] => by simp [le]
  | c :: r => by
    have h1 := le_lt r
    have h2 := c.toNat_lt
    simp only [le, List.length_cons, Nat.pow_succ]
    omega
theorem le_append : ∀ (l m : List UInt8), le (l ++ m) = le l + 256 ^ l.length * le m
  | [], m => by simp [le]
  | c :: r, m => by
    simp only [List.cons_append, le, le_append r, List.length_cons, Nat.pow_succ, Nat.mul_add]
    rw [Nat.mul_comm (256 ^ r.length) 256, Nat.mul_assoc]
    omega
theorem le_snoc (l : List UInt8) (c : UInt8) : le (l ++ [c]) = le l + 256 ^ l.length * c.toNat := by
  rw [le_append]; simp [le]

theorem shl_byte {c : Nat} {i : Nat} (hc : c < 256) (hi : i < 8) : shlI .u64 (c : Int) (8 * (i : Int)) = ((256 ^ i * c : Nat) : Int) := by
  have h : (8 * (i : Int)).toNat = 8 * i := by omega
  unfold shlI
  rw [h, show min (8 * i) (IntKind.bits .u64) = 8 * i by simp [IntKind.bits]; omega]
  have hp : (2 : Int) ^ (8 * i) = ((256 ^ i : Nat) : Int) := by rw [Int.pow_mul, Int.natCast_pow]; rfl
  rw [hp]
  have e : (c : Int) * ((256 ^ i : Nat) : Int) = ((256 ^ i * c : Nat) : Int) := by rw [Int.natCast_mul, Int.mul_comm]
  rw [e]
  apply wr_nat_u64
  have h1 : 256 ^ i * c < 256 ^ i * 256 := by
    apply Nat.mul_lt_mul_of_pos_left hc
    exact Nat.pow_pos (by decide)
  have h2 : 256 ^ i * 256 ≤ 256 ^ 8 := by
    rw [← Nat.pow_succ]
    exact Nat.pow_le_pow_right (by decide) (by omega)
  omega

theorem or_byte {n : Nat} {c : Nat} {i : Nat} (hn : n < 256 ^ i) (hc : c < 256) (hi : i < 8) : bit2 .or .u64 (n : Int) (shlI .u64 (c : Int) (8 * (i : Int))) = ((n + 256 ^ i * c : Nat) : Int) := by
  have h2 : 256 ^ i * 256 ≤ 256 ^ 8 := by
    rw [← Nat.pow_succ]
    exact Nat.pow_le_pow_right (by decide) (by omega)
  have h1 : 256 ^ i * c < 256 ^ i * 256 := by
    apply Nat.mul_lt_mul_of_pos_left hc
    exact Nat.pow_pos (by decide)
  rw [shl_byte hc hi, or_u64 ⟨by omega, by omega⟩ ⟨by omega, by omega⟩, Int.toNat_natCast, Int.toNat_natCast, Nat.or_comm]
  congr 1
  have e : 256 ^ i = 2 ^ (8 * i) := by rw [Nat.pow_mul]
  rw [e] at hn ⊢
  rw [← Nat.two_pow_add_eq_or_of_lt hn, Nat.add_comm]
end Go.UM

/- Package codec, part 2: numbers that may be below 0; the reader. -/


namespace Go.UM
open Go.AM
set_option maxRecDepth 4000

def signs (b : List UInt8) (w : Int) (n : List Int) : List UInt8 × Int :=
  if w < 1 ∨ 8 < w then ([], 2) else if n.any (fun x => decide (x < -(256 ^ w.toNat / 2)) || decide (256 ^ w.toNat / 2 ≤ x)) = true then ([], 3) else puts b w (n.map fun x => x % 256 ^ w.toNat)

theorem signs_bad {b : List UInt8} {w : Int} {n : List Int} {x : Int} (h1 : 1 ≤ w) (h2 : w ≤ 8) (hx : x ∈ n) (h : x < -(256 ^ w.toNat / 2) ∨ 256 ^ w.toNat / 2 ≤ x) : signs b w n = ([], 3) := by
  unfold signs
  rw [if_neg (by omega), if_pos]
  simp only [List.any_eq_true, Bool.or_eq_true, decide_eq_true_eq]
  exact ⟨x, hx, h⟩
theorem signs_ok {b : List UInt8} {w : Int} {n : List Int} (h1 : 1 ≤ w) (h2 : w ≤ 8) (h : n.any (fun x => decide (x < -(256 ^ w.toNat / 2)) || decide (256 ^ w.toNat / 2 ≤ x)) = false) : signs b w n = puts b w (n.map fun x => x % 256 ^ w.toNat) := by
  unfold signs
  rw [if_neg (by omega), if_neg (by rw [h]; decide)]

theorem sx_back {w x : Int} (h1 : 1 ≤ w) (h2 : w ≤ 8) (hx : inI .i64 x) : (shrI .i64 (shlI .i64 x (64 - 8 * w)) (64 - 8 * w) = x) ↔ ¬ (x < -(256 ^ w.toNat / 2) ∨ 256 ^ w.toNat / 2 ≤ x) := by
  simp only [inI] at hx
  obtain h | h | h | h | h | h | h | h : w = 1 ∨ w = 2 ∨ w = 3 ∨ w = 4 ∨ w = 5 ∨ w = 6 ∨ w = 7 ∨ w = 8 := by omega
  all_goals subst h
  all_goals (simp only [shrI, shlI, IntKind.wrap, IntKind.bits, IntKind.signed]; simp [Int.fdiv_eq_ediv]; omega)

theorem ux_bits {w x : Int} (h1 : 1 ≤ w) (h2 : w ≤ 8) (hx : inI .i64 x) : shrI .u64 (shlI .u64 (wr .u64 x) (64 - 8 * w)) (64 - 8 * w) = x % 256 ^ w.toNat := by
  simp only [inI] at hx
  obtain h | h | h | h | h | h | h | h : w = 1 ∨ w = 2 ∨ w = 3 ∨ w = 4 ∨ w = 5 ∨ w = 6 ∨ w = 7 ∨ w = 8 := by omega
  all_goals subst h
  all_goals (simp only [wr, shrI, shlI, IntKind.wrap, IntKind.bits, IntKind.signed]; simp [Int.fdiv_eq_ediv] <;> omega)

theorem puts_mod {b : List UInt8} {w : Int} {n : List Int} (h1 : 1 ≤ w) (h2 : w ≤ 8) : ∀ x ∈ n.map (fun x => x % 256 ^ w.toNat), 0 ≤ x ∧ x ≤ 18446744073709551615 := by
  intro x hx
  obtain ⟨y, _, rfl⟩ := List.mem_map.1 hx
  obtain h | h | h | h | h | h | h | h : w = 1 ∨ w = 2 ∨ w = 3 ∨ w = 4 ∨ w = 5 ∨ w = 6 ∨ w = 7 ∨ w = 8 := by omega
  all_goals (subst h; simp <;> omega)

theorem signed_c {R : Env} (h : N71 R) (b : List UInt8) (w : Int) (n : List Int) (hl : b.length + 8 * n.length ≤ 1073741824) (hn : ∀ x ∈ n, inI .i64 x) :
    R.Mc 71 [.isl 1 (slc8 b), .int .i64 w, .isl 1 (slcK .i64 n)] [] (.tup [.osl 0 (signs b w n).1.length, .int .i64 (signs b w n).2]) [(0, .arr (R.ty 4) 1 (slc8 (signs b w n).1))] 1 :=
  h.o71.enterM 100 0 rfl rfl rfl fun X bb hfit hp => by
    generalize hq : signs b w n = q
    repeat ((intro _u; clear _u); first | with_reducible first | refine cT ?_ | refine cF ?_ | refine cA ?_ | refine cB ?_ | refine aLn ?_ | refine cK ?_ | refine aS8 ?_ | refine wI ?_ | refine nD ?_ | refine aX rfl ?_)
    intro _u; clear _u
    refine cS (fun h1 => ?_) (fun h1 => ?_)
    · rw [signs, if_pos (.inl h1)] at hq
      subst hq
      repeat ((intro _u; clear _u); first | with_reducible first | refine cT ?_ | refine cF ?_ | refine cA ?_ | refine cB ?_ | refine aLn ?_ | refine cK ?_ | refine aS8 ?_ | refine wI ?_ | refine nD ?_ | refine aX rfl ?_)
      intro _u; clear _u
      exact rM [50]
    · repeat ((intro _u; clear _u); first | with_reducible first | refine cT ?_ | refine cF ?_ | refine cA ?_ | refine cB ?_ | refine aLn ?_ | refine cK ?_ | refine aS8 ?_ | refine wI ?_ | refine nD ?_ | refine aX rfl ?_)
      intro _u; clear _u
      refine cS (fun h2 => ?_) (fun h2 => ?_)
      · rw [signs, if_pos (.inr h2)] at hq
        subst hq
        repeat ((intro _u; clear _u); first | with_reducible first | refine cT ?_ | refine cF ?_ | refine cA ?_ | refine cB ?_ | refine aLn ?_ | refine cK ?_ | refine aS8 ?_ | refine wI ?_ | refine nD ?_ | refine aX rfl ?_)
        intro _u; clear _u
        exact rM [50]
      · repeat ((intro _u; clear _u); first | with_reducible first | refine cT ?_ | refine cF ?_ | refine cA ?_ | refine cB ?_ | refine aLn ?_ | refine cK ?_ | refine aS8 ?_ | refine wI ?_ | refine nD ?_ | refine aX rfl ?_)
        intro _u; clear _u
        refine lPa 100 (fun k : Nat => k ≤ n.length ∧ (n.take k).any (fun x => decide (x < -(256 ^ w.toNat / 2)) || decide (256 ^ w.toNat / 2 ≤ x)) = false) (fun k => ⟨[(0, .isl 1 (slc8 b)), (1, .int .i64 w), (8, .osl 0 ((n.take k).map fun x => x % 256 ^ w.toNat).length), (18, .isl 1 (slcK .i64 n)), (19, .int .i64 n.length), (20, .int .i64 k)], [(0, .arr (R.ty 6) 1 (slcK .u64 ((n.take k).map fun x => x % 256 ^ w.toNat)))], 1⟩) (fun k => n.length - k) (0) ?_ ?_
        · exact ⟨Nat.zero_le _, by simp⟩
        · intro k hk
          dsimp only
          repeat ((intro _u; clear _u); first | with_reducible first | refine cT ?_ | refine cF ?_ | refine cA ?_ | refine cB ?_ | refine aLn ?_ | refine cK ?_ | refine aS8 ?_ | refine wI ?_ | refine nD ?_ | refine aX rfl ?_)
          intro _u; clear _u
          refine cS (fun h3 => ?_) (fun h3 => ?_)
          · obtain ⟨x, hx⟩ : ∃ x, n[k]? = some x := ⟨_, List.getElem?_eq_getElem (by first | omega | (simp <;> omega))⟩
            repeat ((intro _u; clear _u); first | with_reducible first | refine cT ?_ | refine cF ?_ | refine cA ?_ | refine cB ?_ | refine aLn ?_ | refine cK ?_ | refine aS8 ?_ | refine wI ?_ | refine nD ?_ | refine aX rfl ?_)
            intro _u; clear _u
            refine eget_map hx ?_
            have hxk := hx
            have hx := hn x (List.mem_of_getElem? hxk)
            have hsx := sx_back (by omega) h2 hx
            repeat ((intro _u; clear _u); first | with_reducible first | refine cT ?_ | refine cF ?_ | refine cA ?_ | refine cB ?_ | refine aLn ?_ | refine cK ?_ | refine aS8 ?_ | refine wI ?_ | refine nD ?_ | refine aX rfl ?_)
            intro _u; clear _u
            refine cS (fun h4 => ?_) (fun h4 => ?_)
            · rw [signs_bad (by omega) (by omega) (List.mem_of_getElem? hxk) (Decidable.not_not.1 fun hb => h4 (hsx.2 hb))] at hq
              subst hq
              repeat ((intro _u; clear _u); first | with_reducible first | refine cT ?_ | refine cF ?_ | refine cA ?_ | refine cB ?_ | refine aLn ?_ | refine cK ?_ | refine aS8 ?_ | refine wI ?_ | refine nD ?_ | refine aX rfl ?_)
              intro _u; clear _u
              exact rM [50]
            · repeat ((intro _u; clear _u); first | with_reducible first | refine cT ?_ | refine cF ?_ | refine cA ?_ | refine cB ?_ | refine aLn ?_ | refine cK ?_ | refine aS8 ?_ | refine wI ?_ | refine nD ?_ | refine aX rfl ?_)
              intro _u; clear _u
              refine iwr_any ?_
              repeat ((intro _u; clear _u); first | with_reducible first | refine cT ?_ | refine cF ?_ | refine cA ?_ | refine cB ?_ | refine aLn ?_ | refine cK ?_ | refine aS8 ?_ | refine wI ?_ | refine nD ?_ | refine aX rfl ?_)
              intro _u; clear _u
              rw [ux_bits (by omega) h2 hx]
              refine nX (k + 1) ?_ ?_ ⟨_, hp, rfl⟩ ?_ ?_
              · refine ⟨by omega, ?_⟩
                rw [any_take_succ hxk, hk.2]
                have := hsx.1 h4
                simp only [Bool.false_or, Bool.or_eq_false_iff, decide_eq_false_iff_not]
                omega
              · omega
              · all_goals repeat' (first | exact True.intro | refine And.intro ?_ ?_ | (intro _u; clear _u) | with_reducible first | refine eM ?_ ?_ | refine eF ?_ ?_ ?_ | refine eN ?_ | refine eL ?_ ?_ ?_ | refine eA ?_ ?_ | refine IWk.mk ⟨_, hp, rfl⟩ ?_ ?_)
                all_goals first | with_reducible rfl | omega | exact Or.inl (by decide) | (simp; done) | rfl | skip
                rw [take_succ_get hxk]; simp
              · all_goals repeat' (first | exact True.intro | refine And.intro ?_ ?_ | (intro _u; clear _u) | with_reducible first | refine eM ?_ ?_ | refine eF ?_ ?_ ?_ | refine eN ?_ | refine eL ?_ ?_ ?_ | refine eA ?_ ?_ | refine IWk.mk ⟨_, hp, rfl⟩ ?_ ?_)
                all_goals first | with_reducible rfl | omega | exact Or.inl (by decide) | (simp; done) | rfl | skip
                rw [take_succ_get hxk]; simp [slcK]
          · have hkn : n.take k = n := List.take_of_length_le (by omega)
            rw [hkn] at hk ⊢
            rw [signs_ok (by omega) (by omega) hk.2] at hq
            subst hq
            repeat ((intro _u; clear _u); first | with_reducible first | refine cT ?_ | refine cF ?_ | refine cA ?_ | refine cB ?_ | refine aLn ?_ | refine cK ?_ | refine aS8 ?_ | refine wI ?_ | refine nD ?_ | refine aX rfl ?_)
            intro _u; clear _u
            refine cM true [] (put_c h.n54 b w (n.map fun x => x % 256 ^ w.toNat) (by simpa using hl) (puts_mod (b := b) (by omega) h2)) ?_
            repeat ((intro _u; clear _u); first | refine eK ?_ | refine eP ?_)
            repeat ((intro _u; clear _u); first | with_reducible first | refine cT ?_ | refine cF ?_ | refine cA ?_ | refine cB ?_ | refine aLn ?_ | refine cK ?_ | refine aS8 ?_ | refine wI ?_ | refine nD ?_ | refine aX rfl ?_)
            intro _u; clear _u
            exact rM [1]
/-! ### The reader -/
structure Rd where
  l : List UInt8
  e : Int
  made : Bool
def Rd.row (r : Rd) : List AV := [.isl 1 (slc8 r.l), .int .i64 r.e, .bool r.made]
def Rd.off (r : Rd) : Bool := !r.made || decide (r.e ≠ 0)
/-- What is taken, and what is left. -/
def Rd.take (r : Rd) (n : Int) : List UInt8 × Rd :=
  if r.made = false ∨ r.e ≠ 0 then ([], r) else if n < 0 then ([], { r with e := 2 }) else if (r.l.length : Int) < n then ([], { r with e := 4 }) else (r.l.take n.toNat, { r with l := r.l.drop n.toNat })
def rdM (R : Env) (r : Rd) : IMem := [(0, .var (R.ty 9) r.row)]

theorem none_c {R : Env} (h : N64 R) (r : Rd) : R.Mc 64 [.loc 0 1 0 0] (rdM R r) (.bool (!r.made)) (rdM R r) 1 :=
  h.o64.enterM 60 1 rfl rfl rfl fun X bb hfit hp => by
    repeat ((intro _u; clear _u); first | with_reducible first | refine cT ?_ | refine cF ?_ | refine cA ?_ | refine cB ?_ | refine aLn ?_ | refine cK ?_ | refine aS8 ?_ | refine wI ?_ | refine nD ?_ | refine aX rfl ?_)
    intro _u; clear _u
    exact rM [0]
theorem none_n {R : Env} (h : N64 R) : R.Pc 64 [.nilp] (.bool true) :=
  h.o64.enter 60 rfl fun X bb hfit hp => by
    repeat ((intro _u; clear _u); first | with_reducible first | refine cT ?_ | refine cF ?_ | refine cA ?_ | refine cB ?_ | refine aLn ?_ | refine cK ?_ | refine aS8 ?_ | refine wI ?_ | refine nD ?_ | refine aX rfl ?_)
    intro _u; clear _u
    exact rT

theorem new_c {R : Env} (h : N56 R) (l : List UInt8) (hl : l.length ≤ 1073741824) : R.Mc 56 [.isl 1 (slc8 l)] [] (.loc 0 1 0 0) (rdM R ⟨l, 0, true⟩) 1 :=
  h.o56.enterM 60 0 rfl rfl rfl fun X bb hfit hp => by
    repeat ((intro _u; clear _u); first | with_reducible first | refine cT ?_ | refine cF ?_ | refine cA ?_ | refine cB ?_ | refine aLn ?_ | refine cK ?_ | refine aS8 ?_ | refine wI ?_ | refine nD ?_ | refine aX rfl ?_)
    intro _u; clear _u
    refine cM false [] (clone8_c h.n62 l hl) ?_
    repeat ((intro _u; clear _u); first | refine eK ?_ | refine eP ?_)
    repeat ((intro _u; clear _u); first | with_reducible first | refine cT ?_ | refine cF ?_ | refine cA ?_ | refine cB ?_ | refine aLn ?_ | refine cK ?_ | refine aS8 ?_ | refine wI ?_ | refine nD ?_ | refine aX rfl ?_)
    intro _u; clear _u
    exact rM [1]

theorem take_c {R : Env} (h : N59 R) (r : Rd) (n : Int) : R.Mc 59 [.loc 0 1 0 0, .int .i64 n] (rdM R r) (.isl 1 (slc8 (r.take n).1)) (rdM R (r.take n).2) 1 :=
  h.o59.enterM 60 1 rfl rfl rfl fun X bb hfit hp => by
    repeat ((intro _u; clear _u); first | with_reducible first | refine cT ?_ | refine cF ?_ | refine cA ?_ | refine cB ?_ | refine aLn ?_ | refine cK ?_ | refine aS8 ?_ | refine wI ?_ | refine nD ?_ | refine aX rfl ?_)
    intro _u; clear _u
    refine cM false [0] (none_c h.n64 r) ?_
    repeat ((intro _u; clear _u); first | refine eK ?_ | refine eP ?_)
    generalize hq : r.take n = q
    cases hm : r.made with
    | false =>
      rw [Rd.take, if_pos (.inl hm)] at hq
      subst hq
      repeat ((intro _u; clear _u); first | with_reducible first | refine cT ?_ | refine cF ?_ | refine cA ?_ | refine cB ?_ | refine aLn ?_ | refine cK ?_ | refine aS8 ?_ | refine wI ?_ | refine nD ?_ | refine aX rfl ?_)
      intro _u; clear _u
      exact rM [0]
    | true =>
    repeat ((intro _u; clear _u); first | with_reducible first | refine cT ?_ | refine cF ?_ | refine cA ?_ | refine cB ?_ | refine aLn ?_ | refine cK ?_ | refine aS8 ?_ | refine wI ?_ | refine nD ?_ | refine aX rfl ?_)
    intro _u; clear _u
    refine cS (fun h1 => ?_) (fun h1 => ?_)
    · rw [Rd.take, if_pos (.inr (by simpa using h1))] at hq
      subst hq
      repeat ((intro _u; clear _u); first | with_reducible first | refine cT ?_ | refine cF ?_ | refine cA ?_ | refine cB ?_ | refine aLn ?_ | refine cK ?_ | refine aS8 ?_ | refine wI ?_ | refine nD ?_ | refine aX rfl ?_)
      intro _u; clear _u
      exact rM [0]
    · have h0 : ¬ (r.made = false ∨ r.e ≠ 0) := by simp [hm]; simpa using h1
      repeat ((intro _u; clear _u); first | with_reducible first | refine cT ?_ | refine cF ?_ | refine cA ?_ | refine cB ?_ | refine aLn ?_ | refine cK ?_ | refine aS8 ?_ | refine wI ?_ | refine nD ?_ | refine aX rfl ?_)
      intro _u; clear _u
      refine cS (fun h2 => ?_) (fun h2 => ?_)
      · rw [Rd.take, if_neg h0, if_pos h2] at hq
        subst hq
        repeat ((intro _u; clear _u); first | with_reducible first | refine cT ?_ | refine cF ?_ | refine cA ?_ | refine cB ?_ | refine aLn ?_ | refine cK ?_ | refine aS8 ?_ | refine wI ?_ | refine nD ?_ | refine aX rfl ?_)
        intro _u; clear _u
        exact rM [0]
      · repeat ((intro _u; clear _u); first | with_reducible first | refine cT ?_ | refine cF ?_ | refine cA ?_ | refine cB ?_ | refine aLn ?_ | refine cK ?_ | refine aS8 ?_ | refine wI ?_ | refine nD ?_ | refine aX rfl ?_)
        intro _u; clear _u
        refine cS (fun h3 => ?_) (fun h3 => ?_)
        · rw [Rd.take, if_neg h0, if_neg (by omega), if_pos (by simpa using h3)] at hq
          subst hq
          repeat ((intro _u; clear _u); first | with_reducible first | refine cT ?_ | refine cF ?_ | refine cA ?_ | refine cB ?_ | refine aLn ?_ | refine cK ?_ | refine aS8 ?_ | refine wI ?_ | refine nD ?_ | refine aX rfl ?_)
          intro _u; clear _u
          exact rM [0]
        · rw [Rd.take, if_neg h0, if_neg (by omega), if_neg (by simpa using h3)] at hq
          subst hq
          repeat ((intro _u; clear _u); first | with_reducible first | refine cT ?_ | refine cF ?_ | refine cA ?_ | refine cB ?_ | refine aLn ?_ | refine cK ?_ | refine aS8 ?_ | refine wI ?_ | refine nD ?_ | refine aX rfl ?_)
          intro _u; clear _u
          refine asub_eq (by exact slc8_take _ _) ?_
          repeat ((intro _u; clear _u); first | with_reducible first | refine cT ?_ | refine cF ?_ | refine cA ?_ | refine cB ?_ | refine aLn ?_ | refine cK ?_ | refine aS8 ?_ | refine wI ?_ | refine nD ?_ | refine aX rfl ?_)
          intro _u; clear _u
          refine asub_eq (by exact slc8_drop _ _) ?_
          repeat ((intro _u; clear _u); first | with_reducible first | refine cT ?_ | refine cF ?_ | refine cA ?_ | refine cB ?_ | refine aLn ?_ | refine cK ?_ | refine aS8 ?_ | refine wI ?_ | refine nD ?_ | refine aX rfl ?_)
          intro _u; clear _u
          exact rM [0]

/-- A number that is read. -/
def Rd.num (r : Rd) (w : Int) : Nat × Rd := let t := r.take (if w < 1 ∨ 8 < w then -1 else w); (le t.1, t.2)
theorem take_len (r : Rd) (w : Int) (h : w ≤ 8) : (r.take w).1.length ≤ 8 := by
  unfold Rd.take
  split
  · simp
  · split
    · simp
    · split
      · simp
      · simp only [List.length_take]
        omega


theorem num_c {R : Env} (h : N57 R) (r : Rd) (w : Int) : R.Mc 57 [.loc 0 1 0 0, .int .i64 w] (rdM R r) (.int .u64 (r.num w).1) (rdM R (r.num w).2) 1 :=
  h.o57.enterM 100 1 rfl rfl rfl fun X bb hfit hp => by
    have e1 : w < 1 ∨ 8 < w → r.num w = (le (r.take (-1)).1, (r.take (-1)).2) := fun hw => by unfold Rd.num; rw [if_pos hw]
    have e2 : ¬ (w < 1 ∨ 8 < w) → r.num w = (le (r.take w).1, (r.take w).2) := fun hw => by unfold Rd.num; rw [if_neg hw]
    generalize hq : r.num w = q at e1 e2 ⊢
    repeat ((intro _u; clear _u); first | with_reducible first | refine cT ?_ | refine cF ?_ | refine cA ?_ | refine cB ?_ | refine aLn ?_ | refine cK ?_ | refine aS8 ?_ | refine wI ?_ | refine nD ?_ | refine aX rfl ?_)
    intro _u; clear _u
    refine cS (fun h1 => ?_) (fun h1 => ?_)
    · rw [e1 (.inl h1)]
      repeat ((intro _u; clear _u); first | with_reducible first | refine cT ?_ | refine cF ?_ | refine cA ?_ | refine cB ?_ | refine aLn ?_ | refine cK ?_ | refine aS8 ?_ | refine wI ?_ | refine nD ?_ | refine aX rfl ?_)
      intro _u; clear _u
      refine cM false [0] (take_c h.n59 r (-1)) ?_
      repeat ((intro _u; clear _u); first | refine eK ?_ | refine eP ?_)
      have hlen := take_len r (-1) (by decide)
      generalize r.take (-1) = t at hlen ⊢
      repeat ((intro _u; clear _u); first | with_reducible first | refine cT ?_ | refine cF ?_ | refine cA ?_ | refine cB ?_ | refine aLn ?_ | refine cK ?_ | refine aS8 ?_ | refine wI ?_ | refine nD ?_ | refine aX rfl ?_)
      intro _u; clear _u
      refine lPa 100 (fun i : Nat => i ≤ t.1.length) (fun i => ⟨[(5, .int .u64 (le (t.1.take i))), (16, .isl 1 (slc8 t.1)), (17, .int .i64 t.1.length), (18, .int .i64 i)], rdM R t.2, 1⟩) (fun i => t.1.length - i) (0) ?_ ?_
      · exact Nat.zero_le _
      · intro i hi
        dsimp only
        repeat ((intro _u; clear _u); first | with_reducible first | refine cT ?_ | refine cF ?_ | refine cA ?_ | refine cB ?_ | refine aLn ?_ | refine cK ?_ | refine aS8 ?_ | refine wI ?_ | refine nD ?_ | refine aX rfl ?_)
        intro _u; clear _u
        refine cS (fun h5 => ?_) (fun h5 => ?_)
        · obtain ⟨x, hx⟩ : ∃ x, t.1[i]? = some x := ⟨_, List.getElem?_eq_getElem (by first | omega | (simp <;> omega))⟩
          repeat ((intro _u; clear _u); first | with_reducible first | refine cT ?_ | refine cF ?_ | refine cA ?_ | refine cB ?_ | refine aLn ?_ | refine cK ?_ | refine aS8 ?_ | refine wI ?_ | refine nD ?_ | refine aX rfl ?_)
          intro _u; clear _u
          refine eget_map hx ?_
          repeat ((intro _u; clear _u); first | with_reducible first | refine cT ?_ | refine cF ?_ | refine cA ?_ | refine cB ?_ | refine aLn ?_ | refine cK ?_ | refine aS8 ?_ | refine wI ?_ | refine nD ?_ | refine aX rfl ?_)
          intro _u; clear _u
          refine iwr_in (k := .u64) (by have := x.toNat_lt; simp only [inI]; omega) ?_
          repeat ((intro _u; clear _u); first | with_reducible first | refine cT ?_ | refine cF ?_ | refine cA ?_ | refine cB ?_ | refine aLn ?_ | refine cK ?_ | refine aS8 ?_ | refine wI ?_ | refine nD ?_ | refine aX rfl ?_)
          intro _u; clear _u
          have hil : (t.1.take i).length = i := by simp; omega
          have hle := le_lt (t.1.take i)
          rw [hil] at hle
          rw [or_byte hle x.toNat_lt (by omega)]
          refine nX (i + 1) ?_ ?_ ⟨_, hp, rfl⟩ ?_ ?_
          · omega
          · omega
          · all_goals repeat' (first | exact True.intro | refine And.intro ?_ ?_ | (intro _u; clear _u) | with_reducible first | refine eM ?_ ?_ | refine eF ?_ ?_ ?_ | refine eN ?_ | refine eL ?_ ?_ ?_ | refine eA ?_ ?_ | refine IWk.mk ⟨_, hp, rfl⟩ ?_ ?_)
            all_goals first | with_reducible rfl | omega | exact Or.inl (by decide) | (simp; done) | rfl | skip
            rw [take_succ_get hx, le_snoc, hil]
          · all_goals repeat' (first | exact True.intro | refine And.intro ?_ ?_ | (intro _u; clear _u) | with_reducible first | refine eM ?_ ?_ | refine eF ?_ ?_ ?_ | refine eN ?_ | refine eL ?_ ?_ ?_ | refine eA ?_ ?_ | refine IWk.mk ⟨_, hp, rfl⟩ ?_ ?_)
            all_goals first | with_reducible rfl | omega | exact Or.inl (by decide) | (simp; done) | rfl | skip
        · have hti : t.1.take i = t.1 := List.take_of_length_le (by omega)
          rw [hti]
          repeat ((intro _u; clear _u); first | with_reducible first | refine cT ?_ | refine cF ?_ | refine cA ?_ | refine cB ?_ | refine aLn ?_ | refine cK ?_ | refine aS8 ?_ | refine wI ?_ | refine nD ?_ | refine aX rfl ?_)
          intro _u; clear _u
          exact rM [0]
    · repeat ((intro _u; clear _u); first | with_reducible first | refine cT ?_ | refine cF ?_ | refine cA ?_ | refine cB ?_ | refine aLn ?_ | refine cK ?_ | refine aS8 ?_ | refine wI ?_ | refine nD ?_ | refine aX rfl ?_)
      intro _u; clear _u
      refine cS (fun h2 => ?_) (fun h2 => ?_)
      · rw [e1 (.inr h2)]
        repeat ((intro _u; clear _u); first | with_reducible first | refine cT ?_ | refine cF ?_ | refine cA ?_ | refine cB ?_ | refine aLn ?_ | refine cK ?_ | refine aS8 ?_ | refine wI ?_ | refine nD ?_ | refine aX rfl ?_)
        intro _u; clear _u
        refine cM false [0] (take_c h.n59 r (-1)) ?_
        repeat ((intro _u; clear _u); first | refine eK ?_ | refine eP ?_)
        have hlen := take_len r (-1) (by decide)
        generalize r.take (-1) = t at hlen ⊢
        repeat ((intro _u; clear _u); first | with_reducible first | refine cT ?_ | refine cF ?_ | refine cA ?_ | refine cB ?_ | refine aLn ?_ | refine cK ?_ | refine aS8 ?_ | refine wI ?_ | refine nD ?_ | refine aX rfl ?_)
        intro _u; clear _u
        refine lPa 100 (fun i : Nat => i ≤ t.1.length) (fun i => ⟨[(5, .int .u64 (le (t.1.take i))), (16, .isl 1 (slc8 t.1)), (17, .int .i64 t.1.length), (18, .int .i64 i)], rdM R t.2, 1⟩) (fun i => t.1.length - i) (0) ?_ ?_
        · exact Nat.zero_le _
        · intro i hi
          dsimp only
          repeat ((intro _u; clear _u); first | with_reducible first | refine cT ?_ | refine cF ?_ | refine cA ?_ | refine cB ?_ | refine aLn ?_ | refine cK ?_ | refine aS8 ?_ | refine wI ?_ | refine nD ?_ | refine aX rfl ?_)
          intro _u; clear _u
          refine cS (fun h5 => ?_) (fun h5 => ?_)
          · obtain ⟨x, hx⟩ : ∃ x, t.1[i]? = some x := ⟨_, List.getElem?_eq_getElem (by first | omega | (simp <;> omega))⟩
            repeat ((intro _u; clear _u); first | with_reducible first | refine cT ?_ | refine cF ?_ | refine cA ?_ | refine cB ?_ | refine aLn ?_ | refine cK ?_ | refine aS8 ?_ | refine wI ?_ | refine nD ?_ | refine aX rfl ?_)
            intro _u; clear _u
            refine eget_map hx ?_
            repeat ((intro _u; clear _u); first | with_reducible first | refine cT ?_ | refine cF ?_ | refine cA ?_ | refine cB ?_ | refine aLn ?_ | refine cK ?_ | refine aS8 ?_ | refine wI ?_ | refine nD ?_ | refine aX rfl ?_)
            intro _u; clear _u
            refine iwr_in (k := .u64) (by have := x.toNat_lt; simp only [inI]; omega) ?_
            repeat ((intro _u; clear _u); first | with_reducible first | refine cT ?_ | refine cF ?_ | refine cA ?_ | refine cB ?_ | refine aLn ?_ | refine cK ?_ | refine aS8 ?_ | refine wI ?_ | refine nD ?_ | refine aX rfl ?_)
            intro _u; clear _u
            have hil : (t.1.take i).length = i := by simp; omega
            have hle := le_lt (t.1.take i)
            rw [hil] at hle
            rw [or_byte hle x.toNat_lt (by omega)]
            refine nX (i + 1) ?_ ?_ ⟨_, hp, rfl⟩ ?_ ?_
            · omega
            · omega
            · all_goals repeat' (first | exact True.intro | refine And.intro ?_ ?_ | (intro _u; clear _u) | with_reducible first | refine eM ?_ ?_ | refine eF ?_ ?_ ?_ | refine eN ?_ | refine eL ?_ ?_ ?_ | refine eA ?_ ?_ | refine IWk.mk ⟨_, hp, rfl⟩ ?_ ?_)
              all_goals first | with_reducible rfl | omega | exact Or.inl (by decide) | (simp; done) | rfl | skip
              rw [take_succ_get hx, le_snoc, hil]
            · all_goals repeat' (first | exact True.intro | refine And.intro ?_ ?_ | (intro _u; clear _u) | with_reducible first | refine eM ?_ ?_ | refine eF ?_ ?_ ?_ | refine eN ?_ | refine eL ?_ ?_ ?_ | refine eA ?_ ?_ | refine IWk.mk ⟨_, hp, rfl⟩ ?_ ?_)
              all_goals first | with_reducible rfl | omega | exact Or.inl (by decide) | (simp; done) | rfl | skip
          · have hti : t.1.take i = t.1 := List.take_of_length_le (by omega)
            rw [hti]
            repeat ((intro _u; clear _u); first | with_reducible first | refine cT ?_ | refine cF ?_ | refine cA ?_ | refine cB ?_ | refine aLn ?_ | refine cK ?_ | refine aS8 ?_ | refine wI ?_ | refine nD ?_ | refine aX rfl ?_)
            intro _u; clear _u
            exact rM [0]
      · rw [e2 (by omega)]
        repeat ((intro _u; clear _u); first | with_reducible first | refine cT ?_ | refine cF ?_ | refine cA ?_ | refine cB ?_ | refine aLn ?_ | refine cK ?_ | refine aS8 ?_ | refine wI ?_ | refine nD ?_ | refine aX rfl ?_)
        intro _u; clear _u
        refine cM false [0] (take_c h.n59 r w) ?_
        repeat ((intro _u; clear _u); first | refine eK ?_ | refine eP ?_)
        have hlen := take_len r w h2
        generalize r.take w = t at hlen ⊢
        repeat ((intro _u; clear _u); first | with_reducible first | refine cT ?_ | refine cF ?_ | refine cA ?_ | refine cB ?_ | refine aLn ?_ | refine cK ?_ | refine aS8 ?_ | refine wI ?_ | refine nD ?_ | refine aX rfl ?_)
        intro _u; clear _u
        refine lPa 100 (fun i : Nat => i ≤ t.1.length) (fun i => ⟨[(5, .int .u64 (le (t.1.take i))), (16, .isl 1 (slc8 t.1)), (17, .int .i64 t.1.length), (18, .int .i64 i)], rdM R t.2, 1⟩) (fun i => t.1.length - i) (0) ?_ ?_
        · exact Nat.zero_le _
        · intro i hi
          dsimp only
          repeat ((intro _u; clear _u); first | with_reducible first | refine cT ?_ | refine cF ?_ | refine cA ?_ | refine cB ?_ | refine aLn ?_ | refine cK ?_ | refine aS8 ?_ | refine wI ?_ | refine nD ?_ | refine aX rfl ?_)
          intro _u; clear _u
          refine cS (fun h5 => ?_) (fun h5 => ?_)
          · obtain ⟨x, hx⟩ : ∃ x, t.1[i]? = some x := ⟨_, List.getElem?_eq_getElem (by first | omega | (simp <;> omega))⟩
            repeat ((intro _u; clear _u); first | with_reducible first | refine cT ?_ | refine cF ?_ | refine cA ?_ | refine cB ?_ | refine aLn ?_ | refine cK ?_ | refine aS8 ?_ | refine wI ?_ | refine nD ?_ | refine aX rfl ?_)
            intro _u; clear _u
            refine eget_map hx ?_
            repeat ((intro _u; clear _u); first | with_reducible first | refine cT ?_ | refine cF ?_ | refine cA ?_ | refine cB ?_ | refine aLn ?_ | refine cK ?_ | refine aS8 ?_ | refine wI ?_ | refine nD ?_ | refine aX rfl ?_)
            intro _u; clear _u
            refine iwr_in (k := .u64) (by have := x.toNat_lt; simp only [inI]; omega) ?_
            repeat ((intro _u; clear _u); first | with_reducible first | refine cT ?_ | refine cF ?_ | refine cA ?_ | refine cB ?_ | refine aLn ?_ | refine cK ?_ | refine aS8 ?_ | refine wI ?_ | refine nD ?_ | refine aX rfl ?_)
            intro _u; clear _u
            have hil : (t.1.take i).length = i := by simp; omega
            have hle := le_lt (t.1.take i)
            rw [hil] at hle
            rw [or_byte hle x.toNat_lt (by omega)]
            refine nX (i + 1) ?_ ?_ ⟨_, hp, rfl⟩ ?_ ?_
            · omega
            · omega
            · all_goals repeat' (first | exact True.intro | refine And.intro ?_ ?_ | (intro _u; clear _u) | with_reducible first | refine eM ?_ ?_ | refine eF ?_ ?_ ?_ | refine eN ?_ | refine eL ?_ ?_ ?_ | refine eA ?_ ?_ | refine IWk.mk ⟨_, hp, rfl⟩ ?_ ?_)
              all_goals first | with_reducible rfl | omega | exact Or.inl (by decide) | (simp; done) | rfl | skip
              rw [take_succ_get hx, le_snoc, hil]
            · all_goals repeat' (first | exact True.intro | refine And.intro ?_ ?_ | (intro _u; clear _u) | with_reducible first | refine eM ?_ ?_ | refine eF ?_ ?_ ?_ | refine eN ?_ | refine eL ?_ ?_ ?_ | refine eA ?_ ?_ | refine IWk.mk ⟨_, hp, rfl⟩ ?_ ?_)
              all_goals first | with_reducible rfl | omega | exact Or.inl (by decide) | (simp; done) | rfl | skip
          · have hti : t.1.take i = t.1 := List.take_of_length_le (by omega)
            rw [hti]
            repeat ((intro _u; clear _u); first | with_reducible first | refine cT ?_ | refine cF ?_ | refine cA ?_ | refine cB ?_ | refine aLn ?_ | refine cK ?_ | refine aS8 ?_ | refine wI ?_ | refine nD ?_ | refine aX rfl ?_)
            intro _u; clear _u
            exact rM [0]
/-- A number below 0 is told so. -/
def sx (w : Int) (n : Nat) : Int := if 2 * n < 256 ^ w.toNat then n else n - 256 ^ w.toNat
def Rd.int (r : Rd) (w : Int) : Int × Rd := (if w < 1 ∨ 8 < w then 0 else sx w (r.num w).1, (r.num w).2)

theorem num_lt (r : Rd) {w : Int} (h1 : 1 ≤ w) (h2 : w ≤ 8) : (r.num w).1 < 256 ^ w.toNat := by
  unfold Rd.num
  rw [if_neg (by omega)]
  have h3 := le_lt (r.take w).1
  have h4 : (r.take w).1.length ≤ w.toNat := by
    unfold Rd.take
    split
    · simp
    · split
      · simp
      · split
        · simp
        · simp only [List.length_take]
          omega
  exact Nat.lt_of_lt_of_le h3 (Nat.pow_le_pow_right (by decide) h4)

theorem sx_shr {w : Int} {n : Nat} (h1 : 1 ≤ w) (h2 : w ≤ 8) (hn : n < 256 ^ w.toNat) : shrI .i64 (shlI .i64 (wr .i64 n) (64 - 8 * w)) (64 - 8 * w) = sx w n := by
  unfold sx
  obtain h | h | h | h | h | h | h | h : w = 1 ∨ w = 2 ∨ w = 3 ∨ w = 4 ∨ w = 5 ∨ w = 6 ∨ w = 7 ∨ w = 8 := by omega
  all_goals subst h
  all_goals (simp only [wr, shrI, shlI, IntKind.wrap, IntKind.bits, IntKind.signed]; simp [Int.fdiv_eq_ediv] at hn ⊢; split <;> omega)

theorem int_c {R : Env} (h : N76 R) (r : Rd) (w : Int) : R.Mc 76 [.loc 0 1 0 0, .int .i64 w] (rdM R r) (.int .i64 (r.int w).1) (rdM R (r.int w).2) 1 :=
  h.o76.enterM 100 1 rfl rfl rfl fun X bb hfit hp => by
    repeat ((intro _u; clear _u); first | with_reducible first | refine cT ?_ | refine cF ?_ | refine cA ?_ | refine cB ?_ | refine aLn ?_ | refine cK ?_ | refine aS8 ?_ | refine wI ?_ | refine nD ?_ | refine aX rfl ?_)
    intro _u; clear _u
    refine cM false [0] (num_c h.n57 r w) ?_
    repeat ((intro _u; clear _u); first | refine eK ?_ | refine eP ?_)
    unfold Rd.int
    repeat ((intro _u; clear _u); first | with_reducible first | refine cT ?_ | refine cF ?_ | refine cA ?_ | refine cB ?_ | refine aLn ?_ | refine cK ?_ | refine aS8 ?_ | refine wI ?_ | refine nD ?_ | refine aX rfl ?_)
    intro _u; clear _u
    refine cS (fun h1 => ?_) (fun h1 => ?_)
    · rw [if_pos (.inl h1)]
      repeat ((intro _u; clear _u); first | with_reducible first | refine cT ?_ | refine cF ?_ | refine cA ?_ | refine cB ?_ | refine aLn ?_ | refine cK ?_ | refine aS8 ?_ | refine wI ?_ | refine nD ?_ | refine aX rfl ?_)
      intro _u; clear _u
      exact rM [0]
    · repeat ((intro _u; clear _u); first | with_reducible first | refine cT ?_ | refine cF ?_ | refine cA ?_ | refine cB ?_ | refine aLn ?_ | refine cK ?_ | refine aS8 ?_ | refine wI ?_ | refine nD ?_ | refine aX rfl ?_)
      intro _u; clear _u
      refine cS (fun h2 => ?_) (fun h2 => ?_)
      · rw [if_pos (.inr h2)]
        repeat ((intro _u; clear _u); first | with_reducible first | refine cT ?_ | refine cF ?_ | refine cA ?_ | refine cB ?_ | refine aLn ?_ | refine cK ?_ | refine aS8 ?_ | refine wI ?_ | refine nD ?_ | refine aX rfl ?_)
        intro _u; clear _u
        exact rM [0]
      · rw [if_neg (by omega)]
        repeat ((intro _u; clear _u); first | with_reducible first | refine cT ?_ | refine cF ?_ | refine cA ?_ | refine cB ?_ | refine aLn ?_ | refine cK ?_ | refine aS8 ?_ | refine wI ?_ | refine nD ?_ | refine aX rfl ?_)
        intro _u; clear _u
        refine iwr_any ?_
        repeat ((intro _u; clear _u); first | with_reducible first | refine cT ?_ | refine cF ?_ | refine cA ?_ | refine cB ?_ | refine aLn ?_ | refine cK ?_ | refine aS8 ?_ | refine wI ?_ | refine nD ?_ | refine aX rfl ?_)
        intro _u; clear _u
        refine rM [0] ?_
        all_goals repeat' (first | exact True.intro | refine And.intro ?_ ?_ | (intro _u; clear _u) | with_reducible first | refine eM ?_ ?_ | refine eF ?_ ?_ ?_ | refine eN ?_ | refine eL ?_ ?_ ?_ | refine eA ?_ ?_ | refine IWk.mk ⟨_, hp, rfl⟩ ?_ ?_)
        all_goals first | with_reducible rfl | omega | exact Or.inl (by decide) | (simp; done) | rfl | skip
        exact sx_shr h1 h2 (num_lt r h1 h2)

theorem left_c {R : Env} (h : N68 R) (r : Rd) : R.Mc 68 [.loc 0 1 0 0] (rdM R r) (.int .i64 (if r.made = false ∨ r.e ≠ 0 then 0 else r.l.length)) (rdM R r) 1 :=
  h.o68.enterM 60 1 rfl rfl rfl fun X bb hfit hp => by
    repeat ((intro _u; clear _u); first | with_reducible first | refine cT ?_ | refine cF ?_ | refine cA ?_ | refine cB ?_ | refine aLn ?_ | refine cK ?_ | refine aS8 ?_ | refine wI ?_ | refine nD ?_ | refine aX rfl ?_)
    intro _u; clear _u
    refine cM false [0] (none_c h.n64 r) ?_
    repeat ((intro _u; clear _u); first | refine eK ?_ | refine eP ?_)
    cases hm : r.made with
    | false =>
      repeat ((intro _u; clear _u); first | with_reducible first | refine cT ?_ | refine cF ?_ | refine cA ?_ | refine cB ?_ | refine aLn ?_ | refine cK ?_ | refine aS8 ?_ | refine wI ?_ | refine nD ?_ | refine aX rfl ?_)
      intro _u; clear _u
      exact rM [0]
    | true =>
      repeat ((intro _u; clear _u); first | with_reducible first | refine cT ?_ | refine cF ?_ | refine cA ?_ | refine cB ?_ | refine aLn ?_ | refine cK ?_ | refine aS8 ?_ | refine wI ?_ | refine nD ?_ | refine aX rfl ?_)
      intro _u; clear _u
      refine cS (fun h1 => ?_) (fun h1 => ?_)
      · repeat ((intro _u; clear _u); first | with_reducible first | refine cT ?_ | refine cF ?_ | refine cA ?_ | refine cB ?_ | refine aLn ?_ | refine cK ?_ | refine aS8 ?_ | refine wI ?_ | refine nD ?_ | refine aX rfl ?_)
        intro _u; clear _u
        exact rM [0]
      · repeat ((intro _u; clear _u); first | with_reducible first | refine cT ?_ | refine cF ?_ | refine cA ?_ | refine cB ?_ | refine aLn ?_ | refine cK ?_ | refine aS8 ?_ | refine wI ?_ | refine nD ?_ | refine aX rfl ?_)
        intro _u; clear _u
        refine rM [0] ?_
        all_goals repeat' (first | exact True.intro | refine And.intro ?_ ?_ | (intro _u; clear _u) | with_reducible first | refine eM ?_ ?_ | refine eF ?_ ?_ ?_ | refine eN ?_ | refine eL ?_ ?_ ?_ | refine eA ?_ ?_ | refine IWk.mk ⟨_, hp, rfl⟩ ?_ ?_)
        all_goals first | with_reducible rfl | omega | exact Or.inl (by decide) | (simp; done) | rfl | skip
        simp [h1]

def Rd.err (r : Rd) : Int := if r.made = false then 1 else r.e
theorem err_c {R : Env} (h : N65 R) (r : Rd) : R.Mc 65 [.loc 0 1 0 0] (rdM R r) (.int .i64 r.err) (rdM R r) 1 :=
  h.o65.enterM 60 1 rfl rfl rfl fun X bb hfit hp => by
    repeat ((intro _u; clear _u); first | with_reducible first | refine cT ?_ | refine cF ?_ | refine cA ?_ | refine cB ?_ | refine aLn ?_ | refine cK ?_ | refine aS8 ?_ | refine wI ?_ | refine nD ?_ | refine aX rfl ?_)
    intro _u; clear _u
    refine cM false [0] (none_c h.n64 r) ?_
    repeat ((intro _u; clear _u); first | refine eK ?_ | refine eP ?_)
    unfold Rd.err
    cases hm : r.made with
    | false =>
      repeat ((intro _u; clear _u); first | with_reducible first | refine cT ?_ | refine cF ?_ | refine cA ?_ | refine cB ?_ | refine aLn ?_ | refine cK ?_ | refine aS8 ?_ | refine wI ?_ | refine nD ?_ | refine aX rfl ?_)
      intro _u; clear _u
      exact rM [0]
    | true =>
      repeat ((intro _u; clear _u); first | with_reducible first | refine cT ?_ | refine cF ?_ | refine cA ?_ | refine cB ?_ | refine aLn ?_ | refine cK ?_ | refine aS8 ?_ | refine wI ?_ | refine nD ?_ | refine aX rfl ?_)
      intro _u; clear _u
      exact rM [0]
theorem err_n {R : Env} (h : N65 R) : R.Pc 65 [.nilp] (.int .i64 1) :=
  h.o65.enter 60 rfl fun X bb hfit hp => by
    repeat ((intro _u; clear _u); first | with_reducible first | refine cT ?_ | refine cF ?_ | refine cA ?_ | refine cB ?_ | refine aLn ?_ | refine cK ?_ | refine aS8 ?_ | refine wI ?_ | refine nD ?_ | refine aX rfl ?_)
    intro _u; clear _u
    refine ICall.pure h.n64.o64.hb (none_n h.n64) rfl ?_
    repeat ((intro _u; clear _u); first | with_reducible first | refine cT ?_ | refine cF ?_ | refine cA ?_ | refine cB ?_ | refine aLn ?_ | refine cK ?_ | refine aS8 ?_ | refine wI ?_ | refine nD ?_ | refine aX rfl ?_)
    intro _u; clear _u
    exact rT

def Rd.fin (r : Rd) : Int := if r.err ≠ 0 then r.err else if 0 < r.l.length then 5 else 0
theorem end_c {R : Env} (h : N60 R) (r : Rd) : R.Mc 60 [.loc 0 1 0 0] (rdM R r) (.int .i64 r.fin) (rdM R r) 1 :=
  h.o60.enterM 60 1 rfl rfl rfl fun X bb hfit hp => by
    repeat ((intro _u; clear _u); first | with_reducible first | refine cT ?_ | refine cF ?_ | refine cA ?_ | refine cB ?_ | refine aLn ?_ | refine cK ?_ | refine aS8 ?_ | refine wI ?_ | refine nD ?_ | refine aX rfl ?_)
    intro _u; clear _u
    refine cM false [0] (err_c h.n65 r) ?_
    repeat ((intro _u; clear _u); first | refine eK ?_ | refine eP ?_)
    unfold Rd.fin
    repeat ((intro _u; clear _u); first | with_reducible first | refine cT ?_ | refine cF ?_ | refine cA ?_ | refine cB ?_ | refine aLn ?_ | refine cK ?_ | refine aS8 ?_ | refine wI ?_ | refine nD ?_ | refine aX rfl ?_)
    intro _u; clear _u
    refine cS (fun h1 => ?_) (fun h1 => ?_)
    · rw [if_pos (by simpa using h1)]
      repeat ((intro _u; clear _u); first | with_reducible first | refine cT ?_ | refine cF ?_ | refine cA ?_ | refine cB ?_ | refine aLn ?_ | refine cK ?_ | refine aS8 ?_ | refine wI ?_ | refine nD ?_ | refine aX rfl ?_)
      intro _u; clear _u
      exact rM [0]
    · rw [if_neg (by simpa using h1)]
      repeat ((intro _u; clear _u); first | with_reducible first | refine cT ?_ | refine cF ?_ | refine cA ?_ | refine cB ?_ | refine aLn ?_ | refine cK ?_ | refine aS8 ?_ | refine wI ?_ | refine nD ?_ | refine aX rfl ?_)
      intro _u; clear _u
      refine cS (fun h2 => ?_) (fun h2 => ?_)
      · rw [if_pos (by simpa using h2)]
        repeat ((intro _u; clear _u); first | with_reducible first | refine cT ?_ | refine cF ?_ | refine cA ?_ | refine cB ?_ | refine aLn ?_ | refine cK ?_ | refine aS8 ?_ | refine wI ?_ | refine nD ?_ | refine aX rfl ?_)
        intro _u; clear _u
        exact rM [0]
      · rw [if_neg (by simpa using h2)]
        repeat ((intro _u; clear _u); first | with_reducible first | refine cT ?_ | refine cF ?_ | refine cA ?_ | refine cB ?_ | refine aLn ?_ | refine cK ?_ | refine aS8 ?_ | refine wI ?_ | refine nD ?_ | refine aX rfl ?_)
        intro _u; clear _u
        exact rM [0]

theorem take_n {R : Env} (h : N59 R) (n : Int) : R.Pc 59 [.nilp, .int .i64 n] .nils :=
  h.o59.enter 100 rfl fun X bb hfit hp => by
    repeat ((intro _u; clear _u); first | with_reducible first | refine cT ?_ | refine cF ?_ | refine cA ?_ | refine cB ?_ | refine aLn ?_ | refine cK ?_ | refine aS8 ?_ | refine wI ?_ | refine nD ?_ | refine aX rfl ?_)
    intro _u; clear _u
    refine ICall.pure h.n64.o64.hb (none_n h.n64) rfl ?_
    repeat ((intro _u; clear _u); first | with_reducible first | refine cT ?_ | refine cF ?_ | refine cA ?_ | refine cB ?_ | refine aLn ?_ | refine cK ?_ | refine aS8 ?_ | refine wI ?_ | refine nD ?_ | refine aX rfl ?_)
    intro _u; clear _u
    exact rT

theorem num_n {R : Env} (h : N57 R) : R.Pc 57 [.nilp, .int .i64 1] (.int .u64 0) :=
  h.o57.enter 100 rfl fun X bb hfit hp => by
    repeat ((intro _u; clear _u); first | with_reducible first | refine cT ?_ | refine cF ?_ | refine cA ?_ | refine cB ?_ | refine aLn ?_ | refine cK ?_ | refine aS8 ?_ | refine wI ?_ | refine nD ?_ | refine aX rfl ?_)
    intro _u; clear _u
    refine acnd_f (by decide) ?_
    repeat ((intro _u; clear _u); first | with_reducible first | refine cT ?_ | refine cF ?_ | refine cA ?_ | refine cB ?_ | refine aLn ?_ | refine cK ?_ | refine aS8 ?_ | refine wI ?_ | refine nD ?_ | refine aX rfl ?_)
    intro _u; clear _u
    refine acnd_f (by decide) ?_
    repeat ((intro _u; clear _u); first | with_reducible first | refine cT ?_ | refine cF ?_ | refine cA ?_ | refine cB ?_ | refine aLn ?_ | refine cK ?_ | refine aS8 ?_ | refine wI ?_ | refine nD ?_ | refine aX rfl ?_)
    intro _u; clear _u
    refine ICall.pure h.n59.o59.hb (take_n h.n59 1) rfl ?_
    repeat ((intro _u; clear _u); first | with_reducible first | refine cT ?_ | refine cF ?_ | refine cA ?_ | refine cB ?_ | refine aLn ?_ | refine cK ?_ | refine aS8 ?_ | refine wI ?_ | refine nD ?_ | refine aX rfl ?_)
    intro _u; clear _u
    refine ILoop.one 60 ?_
    repeat ((intro _u; clear _u); first | with_reducible first | refine cT ?_ | refine cF ?_ | refine cA ?_ | refine cB ?_ | refine aLn ?_ | refine cK ?_ | refine aS8 ?_ | refine wI ?_ | refine nD ?_ | refine aX rfl ?_)
    intro _u; clear _u
    refine acnd_f (by decide) ?_
    repeat ((intro _u; clear _u); first | with_reducible first | refine cT ?_ | refine cF ?_ | refine cA ?_ | refine cB ?_ | refine aLn ?_ | refine cK ?_ | refine aS8 ?_ | refine wI ?_ | refine nD ?_ | refine aX rfl ?_)
    intro _u; clear _u
    exact rT
end Go.UM

/- The document's codec (umbraref11): what each function hands back. -/


namespace Go.UM
open Go.AM
set_option maxRecDepth 4000

theorem pow_le8 {w : Int} (h : w ≤ 8) : (256 : Int) ^ w.toNat ≤ 18446744073709551616 := by
  have : (256 : Nat) ^ w.toNat ≤ 256 ^ 8 := Nat.pow_le_pow_right (by decide) (by omega)
  have h2 : ((256 : Int) ^ w.toNat) = ((256 ^ w.toNat : Nat) : Int) := by rw [Int.natCast_pow]; rfl
  omega
theorem pow_ge1 (n : Nat) : (1 : Int) ≤ 256 ^ n := Int.pow_pos (by decide)

theorem most_c {R : Env} (h : N63 R) (w : Int) (hw : w ≤ 8) : R.Pc 63 [.int .i64 w] (.int .u64 (256 ^ w.toNat - 1)) :=
  h.o63.enter 100 rfl fun X bb hfit hp => by
    repeat ((intro _u; clear _u); first | with_reducible first | refine cT ?_ | refine cF ?_ | refine cA ?_ | refine cB ?_ | refine aLn ?_ | refine cK ?_ | refine aS8 ?_ | refine wI ?_ | refine nD ?_ | refine aX rfl ?_)
    intro _u; clear _u
    refine lPa 100 (fun i : Nat => i ≤ w.toNat) (fun i => ⟨[(0, .int .i64 w), (3, .int .u64 (256 ^ i - 1)), (4, .int .i64 i)], [], 0⟩) (fun i => w.toNat - i) (0) ?_ ?_
    · exact Nat.zero_le _
    · intro i hi
      dsimp only
      repeat ((intro _u; clear _u); first | with_reducible first | refine cT ?_ | refine cF ?_ | refine cA ?_ | refine cB ?_ | refine aLn ?_ | refine cK ?_ | refine aS8 ?_ | refine wI ?_ | refine nD ?_ | refine aX rfl ?_)
      intro _u; clear _u
      refine cS (fun h1 => ?_) (fun h1 => ?_)
      · have hp8 : (256 : Int) ^ (i + 1) ≤ 18446744073709551616 := by
          have := pow_le8 (w := (i + 1 : Nat)) (by omega)
          simpa using this
        rw [Int.pow_succ] at hp8
        have hp1 := pow_ge1 i
        repeat ((intro _u; clear _u); first | with_reducible first | refine cT ?_ | refine cF ?_ | refine cA ?_ | refine cB ?_ | refine aLn ?_ | refine cK ?_ | refine aS8 ?_ | refine wI ?_ | refine nD ?_ | refine aX rfl ?_)
        intro _u; clear _u
        refine nXa (i + 1) ?_ ?_
        · omega
        · omega
      · repeat ((intro _u; clear _u); first | with_reducible first | refine cT ?_ | refine cF ?_ | refine cA ?_ | refine cB ?_ | refine aLn ?_ | refine cK ?_ | refine aS8 ?_ | refine wI ?_ | refine nD ?_ | refine aX rfl ?_)
        intro _u; clear _u
        refine rT ?_
        all_goals repeat' (first | exact True.intro | refine And.intro ?_ ?_ | (intro _u; clear _u) | with_reducible first | refine eM ?_ ?_ | refine eF ?_ ?_ ?_ | refine eN ?_ | refine eL ?_ ?_ ?_ | refine eA ?_ ?_ | refine IWk.mk ⟨_, hp, rfl⟩ ?_ ?_)
        all_goals first | with_reducible rfl | omega | exact Or.inl (by decide) | (simp; done) | rfl | skip
        rw [show i = w.toNat by omega]


theorem rput_c {R : Env} (h : N55 R) (b : List UInt8) (w : Int) (n : List Int) (hl : b.length + 8 * n.length ≤ 1073741824) (hn : ∀ x ∈ n, 0 ≤ x ∧ x ≤ 18446744073709551615) :
    R.Mc 55 [.isl 1 (slc8 b), .int .i64 w, .isl 1 (slcK .u64 n)] [] (.tup [.osl 0 (puts b w n).1.length, .int .i64 (puts b w n).2]) [(0, .arr (R.ty 4) 1 (slc8 (puts b w n).1))] 1 :=
  h.o55.enterM 100 0 rfl rfl rfl fun X bb hfit hp => by
    generalize hq : puts b w n = q
    repeat ((intro _u; clear _u); first | with_reducible first | refine cT ?_ | refine cF ?_ | refine cA ?_ | refine cB ?_ | refine aLn ?_ | refine cK ?_ | refine aS8 ?_ | refine wI ?_ | refine nD ?_ | refine aX rfl ?_)
    intro _u; clear _u
    refine cS (fun h1 => ?_) (fun h1 => ?_)
    · rw [puts, if_pos (.inl h1)] at hq
      subst hq
      repeat ((intro _u; clear _u); first | with_reducible first | refine cT ?_ | refine cF ?_ | refine cA ?_ | refine cB ?_ | refine aLn ?_ | refine cK ?_ | refine aS8 ?_ | refine wI ?_ | refine nD ?_ | refine aX rfl ?_)
      intro _u; clear _u
      exact rM [50]
    · repeat ((intro _u; clear _u); first | with_reducible first | refine cT ?_ | refine cF ?_ | refine cA ?_ | refine cB ?_ | refine aLn ?_ | refine cK ?_ | refine aS8 ?_ | refine wI ?_ | refine nD ?_ | refine aX rfl ?_)
      intro _u; clear _u
      refine cS (fun h2 => ?_) (fun h2 => ?_)
      · rw [puts, if_pos (.inr h2)] at hq
        subst hq
        repeat ((intro _u; clear _u); first | with_reducible first | refine cT ?_ | refine cF ?_ | refine cA ?_ | refine cB ?_ | refine aLn ?_ | refine cK ?_ | refine aS8 ?_ | refine wI ?_ | refine nD ?_ | refine aX rfl ?_)
        intro _u; clear _u
        exact rM [50]
      · repeat ((intro _u; clear _u); first | with_reducible first | refine cT ?_ | refine cF ?_ | refine cA ?_ | refine cB ?_ | refine aLn ?_ | refine cK ?_ | refine aS8 ?_ | refine wI ?_ | refine nD ?_ | refine aX rfl ?_)
        intro _u; clear _u
        refine lPa 100 (fun k : Nat => k ≤ n.length ∧ (n.take k).any (fun x => decide (256 ^ w.toNat ≤ x)) = false) (fun k => ⟨[(1, .int .i64 w), (2, .isl 1 (slcK .u64 n)), (8, .osl 0 (b ++ (n.take k).flatMap (enc w.toNat)).length), (9, .int .i64 k)], [(0, .arr (R.ty 4) 1 (slc8 (b ++ (n.take k).flatMap (enc w.toNat))))], 1⟩) (fun k => n.length - k) (0) ?_ ?_
        · exact ⟨Nat.zero_le _, by simp⟩
        · intro k hk
          dsimp only
          repeat ((intro _u; clear _u); first | with_reducible first | refine cT ?_ | refine cF ?_ | refine cA ?_ | refine cB ?_ | refine aLn ?_ | refine cK ?_ | refine aS8 ?_ | refine wI ?_ | refine nD ?_ | refine aX rfl ?_)
          intro _u; clear _u
          refine cS (fun h3 => ?_) (fun h3 => ?_)
          · obtain ⟨x, hx⟩ : ∃ x, n[k]? = some x := ⟨_, List.getElem?_eq_getElem (by first | omega | (simp <;> omega))⟩
            repeat ((intro _u; clear _u); first | with_reducible first | refine cT ?_ | refine cF ?_ | refine cA ?_ | refine cB ?_ | refine aLn ?_ | refine cK ?_ | refine aS8 ?_ | refine wI ?_ | refine nD ?_ | refine aX rfl ?_)
            intro _u; clear _u
            refine eget_map hx ?_
            have hxk := hx
            have hx := hn x (List.mem_of_getElem? hxk)
            repeat ((intro _u; clear _u); first | with_reducible first | refine cT ?_ | refine cF ?_ | refine cA ?_ | refine cB ?_ | refine aLn ?_ | refine cK ?_ | refine aS8 ?_ | refine wI ?_ | refine nD ?_ | refine aX rfl ?_)
            intro _u; clear _u
            refine ICall.pure h.n63.o63.hb (most_c h.n63 w h2) rfl ?_
            repeat ((intro _u; clear _u); first | with_reducible first | refine cT ?_ | refine cF ?_ | refine cA ?_ | refine cB ?_ | refine aLn ?_ | refine cK ?_ | refine aS8 ?_ | refine wI ?_ | refine nD ?_ | refine aX rfl ?_)
            intro _u; clear _u
            refine cS (fun h5 => ?_) (fun h5 => ?_)
            · rw [puts_bad (by omega) (by omega) (List.mem_of_getElem? hxk) (by omega)] at hq
              subst hq
              repeat ((intro _u; clear _u); first | with_reducible first | refine cT ?_ | refine cF ?_ | refine cA ?_ | refine cB ?_ | refine aLn ?_ | refine cK ?_ | refine aS8 ?_ | refine wI ?_ | refine nD ?_ | refine aX rfl ?_)
              intro _u; clear _u
              exact rM [50]
            · have hnb : ¬ 256 ^ w.toNat ≤ x := by omega
              repeat ((intro _u; clear _u); first | with_reducible first | refine cT ?_ | refine cF ?_ | refine cA ?_ | refine cB ?_ | refine aLn ?_ | refine cK ?_ | refine aS8 ?_ | refine wI ?_ | refine nD ?_ | refine aX rfl ?_)
              intro _u; clear _u
              refine eget_map hxk ?_
              repeat ((intro _u; clear _u); first | with_reducible first | refine cT ?_ | refine cF ?_ | refine cA ?_ | refine cB ?_ | refine aLn ?_ | refine cK ?_ | refine aS8 ?_ | refine wI ?_ | refine nD ?_ | refine aX rfl ?_)
              intro _u; clear _u
              refine lPa 100 (fun i : Nat => (i : Int) ≤ w) (fun i => ⟨[(1, .int .i64 w), (2, .isl 1 (slcK .u64 n)), (8, .osl 0 (b ++ (n.take k).flatMap (enc w.toNat) ++ enc i x).length), (9, .int .i64 k), (10, .int .u64 (x / 256 ^ i)), (11, .int .i64 i)], [(0, .arr (R.ty 4) 1 (slc8 (b ++ (n.take k).flatMap (enc w.toNat) ++ enc i x)))], 1⟩) (fun i => w.toNat - i) (0) ?_ ?_
              · show (0 : Int) ≤ w
                omega
              · intro i hi
                dsimp only
                repeat ((intro _u; clear _u); first | with_reducible first | refine cT ?_ | refine cF ?_ | refine cA ?_ | refine cB ?_ | refine aLn ?_ | refine cK ?_ | refine aS8 ?_ | refine wI ?_ | refine nD ?_ | refine aX rfl ?_)
                intro _u; clear _u
                refine cS (fun h6 => ?_) (fun h6 => ?_)
                · repeat ((intro _u; clear _u); first | with_reducible first | refine cT ?_ | refine cF ?_ | refine cA ?_ | refine cB ?_ | refine aLn ?_ | refine cK ?_ | refine aS8 ?_ | refine wI ?_ | refine nD ?_ | refine aX rfl ?_)
                  intro _u; clear _u
                  refine iwr_any ?_
                  repeat ((intro _u; clear _u); first | with_reducible first | refine cT ?_ | refine cF ?_ | refine cA ?_ | refine cB ?_ | refine aLn ?_ | refine cK ?_ | refine aS8 ?_ | refine wI ?_ | refine nD ?_ | refine aX rfl ?_)
                  intro _u; clear _u
                  refine ⟨by rw [slc8_length]; exact put_room hl h2 h1 h3 h6, ?_⟩
                  have hxi : 0 ≤ x / 256 ^ i := Int.ediv_nonneg hx.1 (by have := pow_ge1 i; omega)
                  have hxl : x / 256 ^ i ≤ x := Int.ediv_le_self _ hx.1
                  repeat ((intro _u; clear _u); first | with_reducible first | refine cT ?_ | refine cF ?_ | refine cA ?_ | refine cB ?_ | refine aLn ?_ | refine cK ?_ | refine aS8 ?_ | refine wI ?_ | refine nD ?_ | refine aX rfl ?_)
                  intro _u; clear _u
                  rw [Int.tdiv_eq_ediv_of_nonneg hxi]
                  refine iwr_in (by simp only [inI]; omega) ?_
                  repeat ((intro _u; clear _u); first | with_reducible first | refine cT ?_ | refine cF ?_ | refine cA ?_ | refine cB ?_ | refine aLn ?_ | refine cK ?_ | refine aS8 ?_ | refine wI ?_ | refine nD ?_ | refine aX rfl ?_)
                  intro _u; clear _u
                  refine nX (i + 1) ?_ ?_ ⟨_, hp, rfl⟩ ?_ ?_
                  · omega
                  · omega
                  · all_goals repeat' (first | exact True.intro | refine And.intro ?_ ?_ | (intro _u; clear _u) | with_reducible first | refine eM ?_ ?_ | refine eF ?_ ?_ ?_ | refine eN ?_ | refine eL ?_ ?_ ?_ | refine eA ?_ ?_ | refine IWk.mk ⟨_, hp, rfl⟩ ?_ ?_)
                    all_goals first | with_reducible rfl | omega | exact Or.inl (by decide) | (simp; done) | rfl | skip
                    rw [Int.pow_succ, Int.ediv_ediv_of_nonneg (by have := pow_ge1 i; omega)]
                  · all_goals repeat' (first | exact True.intro | refine And.intro ?_ ?_ | (intro _u; clear _u) | with_reducible first | refine eM ?_ ?_ | refine eF ?_ ?_ ?_ | refine eN ?_ | refine eL ?_ ?_ ?_ | refine eA ?_ ?_ | refine IWk.mk ⟨_, hp, rfl⟩ ?_ ?_)
                    all_goals first | with_reducible rfl | omega | exact Or.inl (by decide) | (simp; done) | rfl | skip
                    simp [enc_succ, u8_tmod hxi]
                · repeat ((intro _u; clear _u); first | with_reducible first | refine cT ?_ | refine cF ?_ | refine cA ?_ | refine cB ?_ | refine aLn ?_ | refine cK ?_ | refine aS8 ?_ | refine wI ?_ | refine nD ?_ | refine aX rfl ?_)
                  intro _u; clear _u
                  refine nX (k + 1) ?_ ?_ ⟨_, hp, rfl⟩ ?_ ?_
                  · refine ⟨by omega, ?_⟩
                    rw [any_take_succ hxk, hk.2, decide_eq_false hnb]; rfl
                  · omega
                  · all_goals repeat' (first | exact True.intro | refine And.intro ?_ ?_ | (intro _u; clear _u) | with_reducible first | refine eM ?_ ?_ | refine eF ?_ ?_ ?_ | refine eN ?_ | refine eL ?_ ?_ ?_ | refine eA ?_ ?_ | refine IWk.mk ⟨_, hp, rfl⟩ ?_ ?_)
                    all_goals first | with_reducible rfl | omega | exact Or.inl (by decide) | (simp; done) | rfl | skip
                    rw [take_succ_get hxk, show i = w.toNat by omega]; simp
                  · all_goals repeat' (first | exact True.intro | refine And.intro ?_ ?_ | (intro _u; clear _u) | with_reducible first | refine eM ?_ ?_ | refine eF ?_ ?_ ?_ | refine eN ?_ | refine eL ?_ ?_ ?_ | refine eA ?_ ?_ | refine IWk.mk ⟨_, hp, rfl⟩ ?_ ?_)
                    all_goals first | with_reducible rfl | omega | exact Or.inl (by decide) | (simp; done) | rfl | skip
                    rw [take_succ_get hxk, show i = w.toNat by omega]; simp
          · have hkn : n.take k = n := List.take_of_length_le (by omega)
            rw [hkn] at hk ⊢
            rw [puts_ok (by omega) (by omega) hk.2] at hq
            subst hq
            repeat ((intro _u; clear _u); first | with_reducible first | refine cT ?_ | refine cF ?_ | refine cA ?_ | refine cB ?_ | refine aLn ?_ | refine cK ?_ | refine aS8 ?_ | refine wI ?_ | refine nD ?_ | refine aX rfl ?_)
            intro _u; clear _u
            exact rM [0]
theorem half_eq {w : Int} (h1 : 1 ≤ w) (h2 : w ≤ 8) : (256 ^ w.toNat - 1 : Int) / 2 = 256 ^ w.toNat / 2 - 1 := by
  obtain h | h | h | h | h | h | h | h : w = 1 ∨ w = 2 ∨ w = 3 ∨ w = 4 ∨ w = 5 ∨ w = 6 ∨ w = 7 ∨ w = 8 := by omega
  all_goals (subst h; decide)
theorem half_le {w : Int} (h1 : 1 ≤ w) (h2 : w ≤ 8) : (256 ^ w.toNat : Int) / 2 ≤ 9223372036854775808 ∧ (128 : Int) ≤ 256 ^ w.toNat / 2 ∧ (256 ^ w.toNat : Int) = 2 * (256 ^ w.toNat / 2) := by
  obtain h | h | h | h | h | h | h | h : w = 1 ∨ w = 2 ∨ w = 3 ∨ w = 4 ∨ w = 5 ∨ w = 6 ∨ w = 7 ∨ w = 8 := by omega
  all_goals (subst h; decide)

theorem rsigned_c {R : Env} (h : N72 R) (b : List UInt8) (w : Int) (n : List Int) (hl : b.length + 8 * n.length ≤ 1073741824) (hn : ∀ x ∈ n, inI .i64 x) :
    R.Mc 72 [.isl 1 (slc8 b), .int .i64 w, .isl 1 (slcK .i64 n)] [] (.tup [.osl 0 (signs b w n).1.length, .int .i64 (signs b w n).2]) [(0, .arr (R.ty 4) 1 (slc8 (signs b w n).1))] 1 :=
  h.o72.enterM 100 0 rfl rfl rfl fun X bb hfit hp => by
    generalize hq : signs b w n = q
    repeat ((intro _u; clear _u); first | with_reducible first | refine cT ?_ | refine cF ?_ | refine cA ?_ | refine cB ?_ | refine aLn ?_ | refine cK ?_ | refine aS8 ?_ | refine wI ?_ | refine nD ?_ | refine aX rfl ?_)
    intro _u; clear _u
    refine cS (fun h1 => ?_) (fun h1 => ?_)
    · rw [signs, if_pos (.inl h1)] at hq
      subst hq
      repeat ((intro _u; clear _u); first | with_reducible first | refine cT ?_ | refine cF ?_ | refine cA ?_ | refine cB ?_ | refine aLn ?_ | refine cK ?_ | refine aS8 ?_ | refine wI ?_ | refine nD ?_ | refine aX rfl ?_)
      intro _u; clear _u
      exact rM [50]
    · repeat ((intro _u; clear _u); first | with_reducible first | refine cT ?_ | refine cF ?_ | refine cA ?_ | refine cB ?_ | refine aLn ?_ | refine cK ?_ | refine aS8 ?_ | refine wI ?_ | refine nD ?_ | refine aX rfl ?_)
      intro _u; clear _u
      refine cS (fun h2 => ?_) (fun h2 => ?_)
      · rw [signs, if_pos (.inr h2)] at hq
        subst hq
        repeat ((intro _u; clear _u); first | with_reducible first | refine cT ?_ | refine cF ?_ | refine cA ?_ | refine cB ?_ | refine aLn ?_ | refine cK ?_ | refine aS8 ?_ | refine wI ?_ | refine nD ?_ | refine aX rfl ?_)
        intro _u; clear _u
        exact rM [50]
      · repeat ((intro _u; clear _u); first | with_reducible first | refine cT ?_ | refine cF ?_ | refine cA ?_ | refine cB ?_ | refine aLn ?_ | refine cK ?_ | refine aS8 ?_ | refine wI ?_ | refine nD ?_ | refine aX rfl ?_)
        intro _u; clear _u
        refine ICall.pure h.n63.o63.hb (most_c h.n63 w h2) rfl ?_
        have hh := half_le h1 h2
        repeat ((intro _u; clear _u); first | with_reducible first | refine cT ?_ | refine cF ?_ | refine cA ?_ | refine cB ?_ | refine aLn ?_ | refine cK ?_ | refine aS8 ?_ | refine wI ?_ | refine nD ?_ | refine aX rfl ?_)
        intro _u; clear _u
        rw [Int.tdiv_eq_ediv_of_nonneg (by omega), half_eq h1 h2]
        refine iwr_in (by simp only [inI]; omega) ?_
        repeat ((intro _u; clear _u); first | with_reducible first | refine cT ?_ | refine cF ?_ | refine cA ?_ | refine cB ?_ | refine aLn ?_ | refine cK ?_ | refine aS8 ?_ | refine wI ?_ | refine nD ?_ | refine aX rfl ?_)
        intro _u; clear _u
        refine lPa 100 (fun k : Nat => k ≤ n.length ∧ (n.take k).any (fun x => decide (x < -(256 ^ w.toNat / 2)) || decide (256 ^ w.toNat / 2 ≤ x)) = false) (fun k => ⟨[(0, .isl 1 (slc8 b)), (1, .int .i64 w), (2, .isl 1 (slcK .i64 n)), (8, .int .i64 (256 ^ w.toNat / 2 - 1)), (9, .osl 0 ((n.take k).map fun x => x % 256 ^ w.toNat).length), (10, .int .i64 k)], [(0, .arr (R.ty 6) 1 (slcK .u64 ((n.take k).map fun x => x % 256 ^ w.toNat)))], 1⟩) (fun k => n.length - k) (0) ?_ ?_
        · exact ⟨Nat.zero_le _, by simp⟩
        · intro k hk
          dsimp only
          repeat ((intro _u; clear _u); first | with_reducible first | refine cT ?_ | refine cF ?_ | refine cA ?_ | refine cB ?_ | refine aLn ?_ | refine cK ?_ | refine aS8 ?_ | refine wI ?_ | refine nD ?_ | refine aX rfl ?_)
          intro _u; clear _u
          refine cS (fun h3 => ?_) (fun h3 => ?_)
          · obtain ⟨x, hx⟩ : ∃ x, n[k]? = some x := ⟨_, List.getElem?_eq_getElem (by first | omega | (simp <;> omega))⟩
            repeat ((intro _u; clear _u); first | with_reducible first | refine cT ?_ | refine cF ?_ | refine cA ?_ | refine cB ?_ | refine aLn ?_ | refine cK ?_ | refine aS8 ?_ | refine wI ?_ | refine nD ?_ | refine aX rfl ?_)
            intro _u; clear _u
            refine eget_map hx ?_
            have hxk := hx
            have hx := hn x (List.mem_of_getElem? hxk)
            simp only [inI] at hx
            repeat ((intro _u; clear _u); first | with_reducible first | refine cT ?_ | refine cF ?_ | refine cA ?_ | refine cB ?_ | refine aLn ?_ | refine cK ?_ | refine aS8 ?_ | refine wI ?_ | refine nD ?_ | refine aX rfl ?_)
            intro _u; clear _u
            refine cS (fun h4 => ?_) (fun h4 => ?_)
            · rw [signs_bad (by omega) (by omega) (List.mem_of_getElem? hxk) (by omega)] at hq
              subst hq
              repeat ((intro _u; clear _u); first | with_reducible first | refine cT ?_ | refine cF ?_ | refine cA ?_ | refine cB ?_ | refine aLn ?_ | refine cK ?_ | refine aS8 ?_ | refine wI ?_ | refine nD ?_ | refine aX rfl ?_)
              intro _u; clear _u
              exact rM [50]
            · repeat ((intro _u; clear _u); first | with_reducible first | refine cT ?_ | refine cF ?_ | refine cA ?_ | refine cB ?_ | refine aLn ?_ | refine cK ?_ | refine aS8 ?_ | refine wI ?_ | refine nD ?_ | refine aX rfl ?_)
              intro _u; clear _u
              refine eget_map hxk ?_
              repeat ((intro _u; clear _u); first | with_reducible first | refine cT ?_ | refine cF ?_ | refine cA ?_ | refine cB ?_ | refine aLn ?_ | refine cK ?_ | refine aS8 ?_ | refine wI ?_ | refine nD ?_ | refine aX rfl ?_)
              intro _u; clear _u
              refine cS (fun h5 => ?_) (fun h5 => ?_)
              · rw [signs_bad (by omega) (by omega) (List.mem_of_getElem? hxk) (by omega)] at hq
                subst hq
                repeat ((intro _u; clear _u); first | with_reducible first | refine cT ?_ | refine cF ?_ | refine cA ?_ | refine cB ?_ | refine aLn ?_ | refine cK ?_ | refine aS8 ?_ | refine wI ?_ | refine nD ?_ | refine aX rfl ?_)
                intro _u; clear _u
                exact rM [50]
              · have hok : (n.take (k + 1)).any (fun x => decide (x < -(256 ^ w.toNat / 2)) || decide (256 ^ w.toNat / 2 ≤ x)) = false := by
                  rw [any_take_succ hxk, hk.2]
                  simp only [Bool.false_or, Bool.or_eq_false_iff, decide_eq_false_iff_not]
                  omega
                repeat ((intro _u; clear _u); first | with_reducible first | refine cT ?_ | refine cF ?_ | refine cA ?_ | refine cB ?_ | refine aLn ?_ | refine cK ?_ | refine aS8 ?_ | refine wI ?_ | refine nD ?_ | refine aX rfl ?_)
                intro _u; clear _u
                refine eget_map hxk ?_
                repeat ((intro _u; clear _u); first | with_reducible first | refine cT ?_ | refine cF ?_ | refine cA ?_ | refine cB ?_ | refine aLn ?_ | refine cK ?_ | refine aS8 ?_ | refine wI ?_ | refine nD ?_ | refine aX rfl ?_)
                intro _u; clear _u
                refine iwr_any ?_
                repeat ((intro _u; clear _u); first | with_reducible first | refine cT ?_ | refine cF ?_ | refine cA ?_ | refine cB ?_ | refine aLn ?_ | refine cK ?_ | refine aS8 ?_ | refine wI ?_ | refine nD ?_ | refine aX rfl ?_)
                intro _u; clear _u
                refine eget_map hxk ?_
                repeat ((intro _u; clear _u); first | with_reducible first | refine cT ?_ | refine cF ?_ | refine cA ?_ | refine cB ?_ | refine aLn ?_ | refine cK ?_ | refine aS8 ?_ | refine wI ?_ | refine nD ?_ | refine aX rfl ?_)
                intro _u; clear _u
                refine cS (fun h6 => ?_) (fun h6 => ?_)
                · repeat ((intro _u; clear _u); first | with_reducible first | refine cT ?_ | refine cF ?_ | refine cA ?_ | refine cB ?_ | refine aLn ?_ | refine cK ?_ | refine aS8 ?_ | refine wI ?_ | refine nD ?_ | refine aX rfl ?_)
                  intro _u; clear _u
                  refine ICall.pure h.n63.o63.hb (most_c h.n63 w h2) rfl ?_
                  repeat ((intro _u; clear _u); first | with_reducible first | refine cT ?_ | refine cF ?_ | refine cA ?_ | refine cB ?_ | refine aLn ?_ | refine cK ?_ | refine aS8 ?_ | refine wI ?_ | refine nD ?_ | refine aX rfl ?_)
                  intro _u; clear _u
                  refine eget_map hxk ?_
                  have hv : x % 256 ^ w.toNat = 256 ^ w.toNat - 1 - (0 - (x + 1)) := by
                    rw [← Int.add_emod_right, Int.emod_eq_of_lt (by omega) (by omega)]
                    omega
                  repeat ((intro _u; clear _u); first | with_reducible first | refine cT ?_ | refine cF ?_ | refine cA ?_ | refine cB ?_ | refine aLn ?_ | refine cK ?_ | refine aS8 ?_ | refine wI ?_ | refine nD ?_ | refine aX rfl ?_)
                  intro _u; clear _u
                  refine nX (k + 1) ?_ ?_ ⟨_, hp, rfl⟩ ?_ ?_
                  · exact ⟨by omega, hok⟩
                  · omega
                  · all_goals repeat' (first | exact True.intro | refine And.intro ?_ ?_ | (intro _u; clear _u) | with_reducible first | refine eM ?_ ?_ | refine eF ?_ ?_ ?_ | refine eN ?_ | refine eL ?_ ?_ ?_ | refine eA ?_ ?_ | refine IWk.mk ⟨_, hp, rfl⟩ ?_ ?_)
                    all_goals first | with_reducible rfl | omega | exact Or.inl (by decide) | (simp; done) | rfl | skip
                    rw [take_succ_get hxk]; simp
                  · all_goals repeat' (first | exact True.intro | refine And.intro ?_ ?_ | (intro _u; clear _u) | with_reducible first | refine eM ?_ ?_ | refine eF ?_ ?_ ?_ | refine eN ?_ | refine eL ?_ ?_ ?_ | refine eA ?_ ?_ | refine IWk.mk ⟨_, hp, rfl⟩ ?_ ?_)
                    all_goals first | with_reducible rfl | omega | exact Or.inl (by decide) | (simp; done) | rfl | skip
                    rw [take_succ_get hxk]; simp [slcK, hv]
                · have hv : x % 256 ^ w.toNat = wr .u64 x := by
                    rw [Int.emod_eq_of_lt (by omega) (by omega), wr_in (k := .u64) ⟨by omega, by omega⟩]
                  repeat ((intro _u; clear _u); first | with_reducible first | refine cT ?_ | refine cF ?_ | refine cA ?_ | refine cB ?_ | refine aLn ?_ | refine cK ?_ | refine aS8 ?_ | refine wI ?_ | refine nD ?_ | refine aX rfl ?_)
                  intro _u; clear _u
                  refine nX (k + 1) ?_ ?_ ⟨_, hp, rfl⟩ ?_ ?_
                  · exact ⟨by omega, hok⟩
                  · omega
                  · all_goals repeat' (first | exact True.intro | refine And.intro ?_ ?_ | (intro _u; clear _u) | with_reducible first | refine eM ?_ ?_ | refine eF ?_ ?_ ?_ | refine eN ?_ | refine eL ?_ ?_ ?_ | refine eA ?_ ?_ | refine IWk.mk ⟨_, hp, rfl⟩ ?_ ?_)
                    all_goals first | with_reducible rfl | omega | exact Or.inl (by decide) | (simp; done) | rfl | skip
                    rw [take_succ_get hxk]; simp
                  · all_goals repeat' (first | exact True.intro | refine And.intro ?_ ?_ | (intro _u; clear _u) | with_reducible first | refine eM ?_ ?_ | refine eF ?_ ?_ ?_ | refine eN ?_ | refine eL ?_ ?_ ?_ | refine eA ?_ ?_ | refine IWk.mk ⟨_, hp, rfl⟩ ?_ ?_)
                    all_goals first | with_reducible rfl | omega | exact Or.inl (by decide) | (simp; done) | rfl | skip
                    rw [take_succ_get hxk]; simp [slcK, hv]
          · have hkn : n.take k = n := List.take_of_length_le (by omega)
            rw [hkn] at hk ⊢
            rw [signs_ok (by omega) (by omega) hk.2] at hq
            subst hq
            repeat ((intro _u; clear _u); first | with_reducible first | refine cT ?_ | refine cF ?_ | refine cA ?_ | refine cB ?_ | refine aLn ?_ | refine cK ?_ | refine aS8 ?_ | refine wI ?_ | refine nD ?_ | refine aX rfl ?_)
            intro _u; clear _u
            refine cM true [] (rput_c h.n55 b w (n.map fun x => x % 256 ^ w.toNat) (by simpa using hl) (puts_mod (b := b) (by omega) h2)) ?_
            repeat ((intro _u; clear _u); first | refine eK ?_ | refine eP ?_)
            repeat ((intro _u; clear _u); first | with_reducible first | refine cT ?_ | refine cF ?_ | refine cA ?_ | refine cB ?_ | refine aLn ?_ | refine cK ?_ | refine aS8 ?_ | refine wI ?_ | refine nD ?_ | refine aX rfl ?_)
            intro _u; clear _u
            exact rM [1]
/-! ### The reader: the bytes B, and what is left of them -/
def rrdM (R : Env) (B : List UInt8) (r : Rd) : IMem := [(0, .var (R.ty 8) [.isl 1 (slc8 B), .int .i64 (B.length - r.l.length), .int .i64 r.e])]

theorem rslice {B l : List UInt8} {n : Int} (hB : l = B.drop (B.length - l.length)) (hl : l.length ≤ B.length) (hn : 0 ≤ n) :
    ((slc8 B).take ((B.length : Int) - l.length + n).toNat).drop ((B.length : Int) - l.length + n - n).toNat = slc8 (l.take n.toNat) := by
  rw [slc8_take, slc8_drop, List.drop_take, show ((B.length : Int) - l.length + n - n).toNat = B.length - l.length by omega, ← hB]
  congr 2
  omega

theorem rtake_c {R : Env} (h : N66 R) (B : List UInt8) (r : Rd) (hBm : B.length ≤ 1073741824) (hB : r.l = B.drop (B.length - r.l.length)) (hm : r.made = true) (n : Int) :
    R.Mc 66 [.loc 0 1 0 0, .int .i64 n] (rrdM R B r) (.isl 1 (slc8 (r.take n).1)) (rrdM R B (r.take n).2) 1 :=
  h.o66.enterM 100 1 rfl rfl rfl fun X bb hfit hp => by
    have hBl : r.l.length ≤ B.length := by rw [hB]; simp
    generalize hq : r.take n = q
    repeat ((intro _u; clear _u); first | with_reducible first | refine cT ?_ | refine cF ?_ | refine cA ?_ | refine cB ?_ | refine aLn ?_ | refine cK ?_ | refine aS8 ?_ | refine wI ?_ | refine nD ?_ | refine aX rfl ?_)
    intro _u; clear _u
    refine cS (fun h1 => ?_) (fun h1 => ?_)
    · repeat ((intro _u; clear _u); first | with_reducible first | refine cT ?_ | refine cF ?_ | refine cA ?_ | refine cB ?_ | refine aLn ?_ | refine cK ?_ | refine aS8 ?_ | refine wI ?_ | refine nD ?_ | refine aX rfl ?_)
      intro _u; clear _u
      refine cS (fun h2 => ?_) (fun h2 => ?_)
      · rw [Rd.take, if_neg (by simp [hm, h1]), if_pos h2] at hq
        subst hq
        repeat ((intro _u; clear _u); first | with_reducible first | refine cT ?_ | refine cF ?_ | refine cA ?_ | refine cB ?_ | refine aLn ?_ | refine cK ?_ | refine aS8 ?_ | refine wI ?_ | refine nD ?_ | refine aX rfl ?_)
        intro _u; clear _u
        refine acnd_f (by decide) ?_
        repeat ((intro _u; clear _u); first | with_reducible first | refine cT ?_ | refine cF ?_ | refine cA ?_ | refine cB ?_ | refine aLn ?_ | refine cK ?_ | refine aS8 ?_ | refine wI ?_ | refine nD ?_ | refine aX rfl ?_)
        intro _u; clear _u
        refine acnd_t (by decide) ?_
        repeat ((intro _u; clear _u); first | with_reducible first | refine cT ?_ | refine cF ?_ | refine cA ?_ | refine cB ?_ | refine aLn ?_ | refine cK ?_ | refine aS8 ?_ | refine wI ?_ | refine nD ?_ | refine aX rfl ?_)
        intro _u; clear _u
        exact rM [0]
      · repeat ((intro _u; clear _u); first | with_reducible first | refine cT ?_ | refine cF ?_ | refine cA ?_ | refine cB ?_ | refine aLn ?_ | refine cK ?_ | refine aS8 ?_ | refine wI ?_ | refine nD ?_ | refine aX rfl ?_)
        intro _u; clear _u
        refine acnd_t (by simp [h1]) ?_
        repeat ((intro _u; clear _u); first | with_reducible first | refine cT ?_ | refine cF ?_ | refine cA ?_ | refine cB ?_ | refine aLn ?_ | refine cK ?_ | refine aS8 ?_ | refine wI ?_ | refine nD ?_ | refine aX rfl ?_)
        intro _u; clear _u
        refine cS (fun h3 => ?_) (fun h3 => ?_)
        · rw [Rd.take, if_neg (by simp [hm, h1]), if_neg (by omega), if_pos (by omega)] at hq
          subst hq
          repeat ((intro _u; clear _u); first | with_reducible first | refine cT ?_ | refine cF ?_ | refine cA ?_ | refine cB ?_ | refine aLn ?_ | refine cK ?_ | refine aS8 ?_ | refine wI ?_ | refine nD ?_ | refine aX rfl ?_)
          intro _u; clear _u
          refine acnd_t (by decide) ?_
          repeat ((intro _u; clear _u); first | with_reducible first | refine cT ?_ | refine cF ?_ | refine cA ?_ | refine cB ?_ | refine aLn ?_ | refine cK ?_ | refine aS8 ?_ | refine wI ?_ | refine nD ?_ | refine aX rfl ?_)
          intro _u; clear _u
          exact rM [0]
        · rw [Rd.take, if_neg (by simp [hm, h1]), if_neg (by omega), if_neg (by omega)] at hq
          subst hq
          repeat ((intro _u; clear _u); first | with_reducible first | refine cT ?_ | refine cF ?_ | refine cA ?_ | refine cB ?_ | refine aLn ?_ | refine cK ?_ | refine aS8 ?_ | refine wI ?_ | refine nD ?_ | refine aX rfl ?_)
          intro _u; clear _u
          refine acnd_f (by simp [h1]) ?_
          repeat ((intro _u; clear _u); first | with_reducible first | refine cT ?_ | refine cF ?_ | refine cA ?_ | refine cB ?_ | refine aLn ?_ | refine cK ?_ | refine aS8 ?_ | refine wI ?_ | refine nD ?_ | refine aX rfl ?_)
          intro _u; clear _u
          refine asub_eq (by exact rslice hB hBl (by omega)) ?_
          repeat ((intro _u; clear _u); first | with_reducible first | refine cT ?_ | refine cF ?_ | refine cA ?_ | refine cB ?_ | refine aLn ?_ | refine cK ?_ | refine aS8 ?_ | refine wI ?_ | refine nD ?_ | refine aX rfl ?_)
          intro _u; clear _u
          refine rM [0] ?_
          all_goals repeat' (first | exact True.intro | refine And.intro ?_ ?_ | (intro _u; clear _u) | with_reducible first | refine eM ?_ ?_ | refine eF ?_ ?_ ?_ | refine eN ?_ | refine eL ?_ ?_ ?_ | refine eA ?_ ?_ | refine IWk.mk ⟨_, hp, rfl⟩ ?_ ?_)
          all_goals first | with_reducible rfl | omega | exact Or.inl (by decide) | (simp; done) | rfl | skip
          simp; omega
    · rw [Rd.take, if_pos (.inr (by simpa using h1))] at hq
      subst hq
      repeat ((intro _u; clear _u); first | with_reducible first | refine cT ?_ | refine cF ?_ | refine cA ?_ | refine cB ?_ | refine aLn ?_ | refine cK ?_ | refine aS8 ?_ | refine wI ?_ | refine nD ?_ | refine aX rfl ?_)
      intro _u; clear _u
      refine acnd_f (by simpa using h1) ?_
      repeat ((intro _u; clear _u); first | with_reducible first | refine cT ?_ | refine cF ?_ | refine cA ?_ | refine cB ?_ | refine aLn ?_ | refine cK ?_ | refine aS8 ?_ | refine wI ?_ | refine nD ?_ | refine aX rfl ?_)
      intro _u; clear _u
      refine acnd_t (by simpa using h1) ?_
      repeat ((intro _u; clear _u); first | with_reducible first | refine cT ?_ | refine cF ?_ | refine cA ?_ | refine cB ?_ | refine aLn ?_ | refine cK ?_ | refine aS8 ?_ | refine wI ?_ | refine nD ?_ | refine aX rfl ?_)
      intro _u; clear _u
      exact rM [0]
structure RdOk (B : List UInt8) (r : Rd) : Prop where
  m : B.length ≤ 1073741824
  s : r.l = B.drop (B.length - r.l.length)
  made : r.made = true
theorem RdOk.len {B : List UInt8} {r : Rd} (h : RdOk B r) : r.l.length ≤ B.length := by rw [h.s]; simp
theorem RdOk.take {B : List UInt8} {r : Rd} (h : RdOk B r) (n : Int) : RdOk B (r.take n).2 := by
  unfold Rd.take
  split
  · exact h
  · split
    · exact ⟨h.m, h.s, h.made⟩
    · split
      · exact ⟨h.m, h.s, h.made⟩
      · refine ⟨h.m, ?_, h.made⟩
        have h1 := h.s
        have h2 := h.len
        simp only [List.length_drop]
        conv => lhs; rw [h1]
        rw [List.drop_drop]
        congr 1
        omega
theorem RdOk.num {B : List UInt8} {r : Rd} (h : RdOk B r) (w : Int) : RdOk B (r.num w).2 := h.take _
theorem RdOk.int {B : List UInt8} {r : Rd} (h : RdOk B r) (w : Int) : RdOk B (r.int w).2 := h.num w
theorem RdOk.err {B : List UInt8} {r : Rd} (h : RdOk B r) (e : Int) : RdOk B { r with e := e } := ⟨h.m, h.s, h.made⟩
theorem RdOk.new {B : List UInt8} (h : B.length ≤ 1073741824) : RdOk B ⟨B, 0, true⟩ := ⟨h, by simp, rfl⟩

theorem le_drop {l : List UInt8} {j : Nat} {c : UInt8} (h : l[j]? = some c) : le (l.drop j) = le (l.drop (j + 1)) * 256 + c.toNat := by
  obtain ⟨hj, rfl⟩ := List.getElem?_eq_some_iff.1 h
  rw [List.drop_eq_getElem_cons hj]
  simp only [le]
  omega


theorem rnum_c {R : Env} (h : N61 R) (B : List UInt8) (r : Rd) (ok : RdOk B r) (w : Int) : R.Mc 61 [.loc 0 1 0 0, .int .i64 w] (rrdM R B r) (.int .u64 (r.num w).1) (rrdM R B (r.num w).2) 1 :=
  h.o61.enterM 100 1 rfl rfl rfl fun X bb hfit hp => by
    have e1 : w < 1 ∨ 8 < w → r.num w = (le (r.take (-1)).1, (r.take (-1)).2) := fun hw => by unfold Rd.num; rw [if_pos hw]
    have e2 : ¬ (w < 1 ∨ 8 < w) → r.num w = (le (r.take w).1, (r.take w).2) := fun hw => by unfold Rd.num; rw [if_neg hw]
    generalize hq : r.num w = q at e1 e2 ⊢
    repeat ((intro _u; clear _u); first | with_reducible first | refine cT ?_ | refine cF ?_ | refine cA ?_ | refine cB ?_ | refine aLn ?_ | refine cK ?_ | refine aS8 ?_ | refine wI ?_ | refine nD ?_ | refine aX rfl ?_)
    intro _u; clear _u
    refine cS (fun h1 => ?_) (fun h1 => ?_)
    · have bad : w < 1 ∨ 8 < w → q = (le (({ r with e := 2 } : Rd).take (max w 0)).1, (({ r with e := 2 } : Rd).take (max w 0)).2) := fun hw => by
        rw [e1 hw]
        simp [Rd.take, ok.made, h1]
      repeat ((intro _u; clear _u); first | with_reducible first | refine cT ?_ | refine cF ?_ | refine cA ?_ | refine cB ?_ | refine aLn ?_ | refine cK ?_ | refine aS8 ?_ | refine wI ?_ | refine nD ?_ | refine aX rfl ?_)
      intro _u; clear _u
      refine cS (fun h2 => ?_) (fun h2 => ?_)
      · rw [bad (.inl h2)]
        repeat ((intro _u; clear _u); first | with_reducible first | refine cT ?_ | refine cF ?_ | refine cA ?_ | refine cB ?_ | refine aLn ?_ | refine cK ?_ | refine aS8 ?_ | refine wI ?_ | refine nD ?_ | refine aX rfl ?_)
        intro _u; clear _u
        refine cM false [0] (rtake_c h.n66 B { r with e := 2 } ok.m ok.s ok.made (max w 0)) ?_
        repeat ((intro _u; clear _u); first | refine eK ?_ | refine eP ?_)
        have hlen : (({ r with e := 2 } : Rd).take (max w 0)).1.length ≤ 8 := by simp [Rd.take]
        generalize ({ r with e := 2 } : Rd).take (max w 0) = t at hlen ⊢
        repeat ((intro _u; clear _u); first | with_reducible first | refine cT ?_ | refine cF ?_ | refine cA ?_ | refine cB ?_ | refine aLn ?_ | refine cK ?_ | refine aS8 ?_ | refine wI ?_ | refine nD ?_ | refine aX rfl ?_)
        intro _u; clear _u
        refine ILoop.inv 100 (fun j : Nat => j ≤ t.1.length) (fun j => ⟨[(5, .isl 1 (slc8 t.1)), (6, .int .u64 (le (t.1.drop j))), (7, .int .i64 (j - 1))], rrdM R B t.2, 1⟩) (fun j => j) (t.1.length) ?_ ⟨⟨_, hp, rfl⟩, ?_, ?_⟩ ?_
        · exact Nat.le_refl _
        · all_goals repeat' (first | exact True.intro | refine And.intro ?_ ?_ | (intro _u; clear _u) | with_reducible first | refine eM ?_ ?_ | refine eF ?_ ?_ ?_ | refine eN ?_ | refine eL ?_ ?_ ?_ | refine eA ?_ ?_ | refine IWk.mk ⟨_, hp, rfl⟩ ?_ ?_)
          all_goals first | with_reducible rfl | omega | exact Or.inl (by decide) | (simp; done) | rfl | skip
          simp [le]
        · all_goals repeat' (first | exact True.intro | refine And.intro ?_ ?_ | (intro _u; clear _u) | with_reducible first | refine eM ?_ ?_ | refine eF ?_ ?_ ?_ | refine eN ?_ | refine eL ?_ ?_ ?_ | refine eA ?_ ?_ | refine IWk.mk ⟨_, hp, rfl⟩ ?_ ?_)
          all_goals first | with_reducible rfl | omega | exact Or.inl (by decide) | (simp; done) | rfl | skip
        · intro j hj
          dsimp only
          repeat ((intro _u; clear _u); first | with_reducible first | refine cT ?_ | refine cF ?_ | refine cA ?_ | refine cB ?_ | refine aLn ?_ | refine cK ?_ | refine aS8 ?_ | refine wI ?_ | refine nD ?_ | refine aX rfl ?_)
          intro _u; clear _u
          refine cS (fun h5 => ?_) (fun h5 => ?_)
          · obtain ⟨x, hx⟩ : ∃ x, t.1[j - 1]? = some x := ⟨_, List.getElem?_eq_getElem (by omega)⟩
            have hle := le_lt (t.1.drop j)
            have hdl := le_drop hx
            rw [show j - 1 + 1 = j by omega] at hdl
            have hx8 := x.toNat_lt
            have hpw : 256 ^ (t.1.drop j).length * 256 ≤ 256 ^ 8 := by
              rw [← Nat.pow_succ]
              exact Nat.pow_le_pow_right (by decide) (by simp; omega)
            repeat ((intro _u; clear _u); first | with_reducible first | refine cT ?_ | refine cF ?_ | refine cA ?_ | refine cB ?_ | refine aLn ?_ | refine cK ?_ | refine aS8 ?_ | refine wI ?_ | refine nD ?_ | refine aX rfl ?_)
            intro _u; clear _u
            refine eget_map (i := _) (by rw [show ((j : Int) - 1).toNat = j - 1 by omega]; exact hx) ?_
            repeat ((intro _u; clear _u); first | with_reducible first | refine cT ?_ | refine cF ?_ | refine cA ?_ | refine cB ?_ | refine aLn ?_ | refine cK ?_ | refine aS8 ?_ | refine wI ?_ | refine nD ?_ | refine aX rfl ?_)
            intro _u; clear _u
            refine nXa (j - 1) ?_ ?_
            · omega
            · omega
          · have hj0 : j = 0 := by omega
            subst hj0
            repeat ((intro _u; clear _u); first | with_reducible first | refine cT ?_ | refine cF ?_ | refine cA ?_ | refine cB ?_ | refine aLn ?_ | refine cK ?_ | refine aS8 ?_ | refine wI ?_ | refine nD ?_ | refine aX rfl ?_)
            intro _u; clear _u
            exact rM [0]
      · repeat ((intro _u; clear _u); first | with_reducible first | refine cT ?_ | refine cF ?_ | refine cA ?_ | refine cB ?_ | refine aLn ?_ | refine cK ?_ | refine aS8 ?_ | refine wI ?_ | refine nD ?_ | refine aX rfl ?_)
        intro _u; clear _u
        refine cS (fun h3 => ?_) (fun h3 => ?_)
        · rw [bad (.inr h3)]
          repeat ((intro _u; clear _u); first | with_reducible first | refine cT ?_ | refine cF ?_ | refine cA ?_ | refine cB ?_ | refine aLn ?_ | refine cK ?_ | refine aS8 ?_ | refine wI ?_ | refine nD ?_ | refine aX rfl ?_)
          intro _u; clear _u
          refine cM false [0] (rtake_c h.n66 B { r with e := 2 } ok.m ok.s ok.made (max w 0)) ?_
          repeat ((intro _u; clear _u); first | refine eK ?_ | refine eP ?_)
          have hlen : (({ r with e := 2 } : Rd).take (max w 0)).1.length ≤ 8 := by simp [Rd.take]
          generalize ({ r with e := 2 } : Rd).take (max w 0) = t at hlen ⊢
          repeat ((intro _u; clear _u); first | with_reducible first | refine cT ?_ | refine cF ?_ | refine cA ?_ | refine cB ?_ | refine aLn ?_ | refine cK ?_ | refine aS8 ?_ | refine wI ?_ | refine nD ?_ | refine aX rfl ?_)
          intro _u; clear _u
          refine ILoop.inv 100 (fun j : Nat => j ≤ t.1.length) (fun j => ⟨[(5, .isl 1 (slc8 t.1)), (6, .int .u64 (le (t.1.drop j))), (7, .int .i64 (j - 1))], rrdM R B t.2, 1⟩) (fun j => j) (t.1.length) ?_ ⟨⟨_, hp, rfl⟩, ?_, ?_⟩ ?_
          · exact Nat.le_refl _
          · all_goals repeat' (first | exact True.intro | refine And.intro ?_ ?_ | (intro _u; clear _u) | with_reducible first | refine eM ?_ ?_ | refine eF ?_ ?_ ?_ | refine eN ?_ | refine eL ?_ ?_ ?_ | refine eA ?_ ?_ | refine IWk.mk ⟨_, hp, rfl⟩ ?_ ?_)
            all_goals first | with_reducible rfl | omega | exact Or.inl (by decide) | (simp; done) | rfl | skip
            simp [le]
          · all_goals repeat' (first | exact True.intro | refine And.intro ?_ ?_ | (intro _u; clear _u) | with_reducible first | refine eM ?_ ?_ | refine eF ?_ ?_ ?_ | refine eN ?_ | refine eL ?_ ?_ ?_ | refine eA ?_ ?_ | refine IWk.mk ⟨_, hp, rfl⟩ ?_ ?_)
            all_goals first | with_reducible rfl | omega | exact Or.inl (by decide) | (simp; done) | rfl | skip
          · intro j hj
            dsimp only
            repeat ((intro _u; clear _u); first | with_reducible first | refine cT ?_ | refine cF ?_ | refine cA ?_ | refine cB ?_ | refine aLn ?_ | refine cK ?_ | refine aS8 ?_ | refine wI ?_ | refine nD ?_ | refine aX rfl ?_)
            intro _u; clear _u
            refine cS (fun h5 => ?_) (fun h5 => ?_)
            · obtain ⟨x, hx⟩ : ∃ x, t.1[j - 1]? = some x := ⟨_, List.getElem?_eq_getElem (by omega)⟩
              have hle := le_lt (t.1.drop j)
              have hdl := le_drop hx
              rw [show j - 1 + 1 = j by omega] at hdl
              have hx8 := x.toNat_lt
              have hpw : 256 ^ (t.1.drop j).length * 256 ≤ 256 ^ 8 := by
                rw [← Nat.pow_succ]
                exact Nat.pow_le_pow_right (by decide) (by simp; omega)
              repeat ((intro _u; clear _u); first | with_reducible first | refine cT ?_ | refine cF ?_ | refine cA ?_ | refine cB ?_ | refine aLn ?_ | refine cK ?_ | refine aS8 ?_ | refine wI ?_ | refine nD ?_ | refine aX rfl ?_)
              intro _u; clear _u
              refine eget_map (i := _) (by rw [show ((j : Int) - 1).toNat = j - 1 by omega]; exact hx) ?_
              repeat ((intro _u; clear _u); first | with_reducible first | refine cT ?_ | refine cF ?_ | refine cA ?_ | refine cB ?_ | refine aLn ?_ | refine cK ?_ | refine aS8 ?_ | refine wI ?_ | refine nD ?_ | refine aX rfl ?_)
              intro _u; clear _u
              refine nXa (j - 1) ?_ ?_
              · omega
              · omega
            · have hj0 : j = 0 := by omega
              subst hj0
              repeat ((intro _u; clear _u); first | with_reducible first | refine cT ?_ | refine cF ?_ | refine cA ?_ | refine cB ?_ | refine aLn ?_ | refine cK ?_ | refine aS8 ?_ | refine wI ?_ | refine nD ?_ | refine aX rfl ?_)
              intro _u; clear _u
              exact rM [0]
        · rw [e2 (by omega)]
          repeat ((intro _u; clear _u); first | with_reducible first | refine cT ?_ | refine cF ?_ | refine cA ?_ | refine cB ?_ | refine aLn ?_ | refine cK ?_ | refine aS8 ?_ | refine wI ?_ | refine nD ?_ | refine aX rfl ?_)
          intro _u; clear _u
          refine cM false [0] (rtake_c h.n66 B r ok.m ok.s ok.made w) ?_
          repeat ((intro _u; clear _u); first | refine eK ?_ | refine eP ?_)
          have hlen := take_len r w h3
          generalize r.take w = t at hlen ⊢
          repeat ((intro _u; clear _u); first | with_reducible first | refine cT ?_ | refine cF ?_ | refine cA ?_ | refine cB ?_ | refine aLn ?_ | refine cK ?_ | refine aS8 ?_ | refine wI ?_ | refine nD ?_ | refine aX rfl ?_)
          intro _u; clear _u
          refine ILoop.inv 100 (fun j : Nat => j ≤ t.1.length) (fun j => ⟨[(5, .isl 1 (slc8 t.1)), (6, .int .u64 (le (t.1.drop j))), (7, .int .i64 (j - 1))], rrdM R B t.2, 1⟩) (fun j => j) (t.1.length) ?_ ⟨⟨_, hp, rfl⟩, ?_, ?_⟩ ?_
          · exact Nat.le_refl _
          · all_goals repeat' (first | exact True.intro | refine And.intro ?_ ?_ | (intro _u; clear _u) | with_reducible first | refine eM ?_ ?_ | refine eF ?_ ?_ ?_ | refine eN ?_ | refine eL ?_ ?_ ?_ | refine eA ?_ ?_ | refine IWk.mk ⟨_, hp, rfl⟩ ?_ ?_)
            all_goals first | with_reducible rfl | omega | exact Or.inl (by decide) | (simp; done) | rfl | skip
            simp [le]
          · all_goals repeat' (first | exact True.intro | refine And.intro ?_ ?_ | (intro _u; clear _u) | with_reducible first | refine eM ?_ ?_ | refine eF ?_ ?_ ?_ | refine eN ?_ | refine eL ?_ ?_ ?_ | refine eA ?_ ?_ | refine IWk.mk ⟨_, hp, rfl⟩ ?_ ?_)
            all_goals first | with_reducible rfl | omega | exact Or.inl (by decide) | (simp; done) | rfl | skip
          · intro j hj
            dsimp only
            repeat ((intro _u; clear _u); first | with_reducible first | refine cT ?_ | refine cF ?_ | refine cA ?_ | refine cB ?_ | refine aLn ?_ | refine cK ?_ | refine aS8 ?_ | refine wI ?_ | refine nD ?_ | refine aX rfl ?_)
            intro _u; clear _u
            refine cS (fun h5 => ?_) (fun h5 => ?_)
            · obtain ⟨x, hx⟩ : ∃ x, t.1[j - 1]? = some x := ⟨_, List.getElem?_eq_getElem (by omega)⟩
              have hle := le_lt (t.1.drop j)
              have hdl := le_drop hx
              rw [show j - 1 + 1 = j by omega] at hdl
              have hx8 := x.toNat_lt
              have hpw : 256 ^ (t.1.drop j).length * 256 ≤ 256 ^ 8 := by
                rw [← Nat.pow_succ]
                exact Nat.pow_le_pow_right (by decide) (by simp; omega)
              repeat ((intro _u; clear _u); first | with_reducible first | refine cT ?_ | refine cF ?_ | refine cA ?_ | refine cB ?_ | refine aLn ?_ | refine cK ?_ | refine aS8 ?_ | refine wI ?_ | refine nD ?_ | refine aX rfl ?_)
              intro _u; clear _u
              refine eget_map (i := _) (by rw [show ((j : Int) - 1).toNat = j - 1 by omega]; exact hx) ?_
              repeat ((intro _u; clear _u); first | with_reducible first | refine cT ?_ | refine cF ?_ | refine cA ?_ | refine cB ?_ | refine aLn ?_ | refine cK ?_ | refine aS8 ?_ | refine wI ?_ | refine nD ?_ | refine aX rfl ?_)
              intro _u; clear _u
              refine nXa (j - 1) ?_ ?_
              · omega
              · omega
            · have hj0 : j = 0 := by omega
              subst hj0
              repeat ((intro _u; clear _u); first | with_reducible first | refine cT ?_ | refine cF ?_ | refine cA ?_ | refine cB ?_ | refine aLn ?_ | refine cK ?_ | refine aS8 ?_ | refine wI ?_ | refine nD ?_ | refine aX rfl ?_)
              intro _u; clear _u
              exact rM [0]
    · have bad : q = (le (r.take (max w 0)).1, (r.take (max w 0)).2) := by
        by_cases hw : w < 1 ∨ 8 < w
        · rw [e1 hw]; simp [Rd.take, h1]
        · rw [e2 hw]; simp [Rd.take, h1]
      rw [bad]
      repeat ((intro _u; clear _u); first | with_reducible first | refine cT ?_ | refine cF ?_ | refine cA ?_ | refine cB ?_ | refine aLn ?_ | refine cK ?_ | refine aS8 ?_ | refine wI ?_ | refine nD ?_ | refine aX rfl ?_)
      intro _u; clear _u
      refine cM false [0] (rtake_c h.n66 B r ok.m ok.s ok.made (max w 0)) ?_
      repeat ((intro _u; clear _u); first | refine eK ?_ | refine eP ?_)
      have hlen : (r.take (max w 0)).1.length ≤ 8 := by simp [Rd.take, h1]
      generalize r.take (max w 0) = t at hlen ⊢
      repeat ((intro _u; clear _u); first | with_reducible first | refine cT ?_ | refine cF ?_ | refine cA ?_ | refine cB ?_ | refine aLn ?_ | refine cK ?_ | refine aS8 ?_ | refine wI ?_ | refine nD ?_ | refine aX rfl ?_)
      intro _u; clear _u
      refine ILoop.inv 100 (fun j : Nat => j ≤ t.1.length) (fun j => ⟨[(5, .isl 1 (slc8 t.1)), (6, .int .u64 (le (t.1.drop j))), (7, .int .i64 (j - 1))], rrdM R B t.2, 1⟩) (fun j => j) (t.1.length) ?_ ⟨⟨_, hp, rfl⟩, ?_, ?_⟩ ?_
      · exact Nat.le_refl _
      · all_goals repeat' (first | exact True.intro | refine And.intro ?_ ?_ | (intro _u; clear _u) | with_reducible first | refine eM ?_ ?_ | refine eF ?_ ?_ ?_ | refine eN ?_ | refine eL ?_ ?_ ?_ | refine eA ?_ ?_ | refine IWk.mk ⟨_, hp, rfl⟩ ?_ ?_)
        all_goals first | with_reducible rfl | omega | exact Or.inl (by decide) | (simp; done) | rfl | skip
        simp [le]
      · all_goals repeat' (first | exact True.intro | refine And.intro ?_ ?_ | (intro _u; clear _u) | with_reducible first | refine eM ?_ ?_ | refine eF ?_ ?_ ?_ | refine eN ?_ | refine eL ?_ ?_ ?_ | refine eA ?_ ?_ | refine IWk.mk ⟨_, hp, rfl⟩ ?_ ?_)
        all_goals first | with_reducible rfl | omega | exact Or.inl (by decide) | (simp; done) | rfl | skip
      · intro j hj
        dsimp only
        repeat ((intro _u; clear _u); first | with_reducible first | refine cT ?_ | refine cF ?_ | refine cA ?_ | refine cB ?_ | refine aLn ?_ | refine cK ?_ | refine aS8 ?_ | refine wI ?_ | refine nD ?_ | refine aX rfl ?_)
        intro _u; clear _u
        refine cS (fun h5 => ?_) (fun h5 => ?_)
        · obtain ⟨x, hx⟩ : ∃ x, t.1[j - 1]? = some x := ⟨_, List.getElem?_eq_getElem (by omega)⟩
          have hle := le_lt (t.1.drop j)
          have hdl := le_drop hx
          rw [show j - 1 + 1 = j by omega] at hdl
          have hx8 := x.toNat_lt
          have hpw : 256 ^ (t.1.drop j).length * 256 ≤ 256 ^ 8 := by
            rw [← Nat.pow_succ]
            exact Nat.pow_le_pow_right (by decide) (by simp; omega)
          repeat ((intro _u; clear _u); first | with_reducible first | refine cT ?_ | refine cF ?_ | refine cA ?_ | refine cB ?_ | refine aLn ?_ | refine cK ?_ | refine aS8 ?_ | refine wI ?_ | refine nD ?_ | refine aX rfl ?_)
          intro _u; clear _u
          refine eget_map (i := _) (by rw [show ((j : Int) - 1).toNat = j - 1 by omega]; exact hx) ?_
          repeat ((intro _u; clear _u); first | with_reducible first | refine cT ?_ | refine cF ?_ | refine cA ?_ | refine cB ?_ | refine aLn ?_ | refine cK ?_ | refine aS8 ?_ | refine wI ?_ | refine nD ?_ | refine aX rfl ?_)
          intro _u; clear _u
          refine nXa (j - 1) ?_ ?_
          · omega
          · omega
        · have hj0 : j = 0 := by omega
          subst hj0
          repeat ((intro _u; clear _u); first | with_reducible first | refine cT ?_ | refine cF ?_ | refine cA ?_ | refine cB ?_ | refine aLn ?_ | refine cK ?_ | refine aS8 ?_ | refine wI ?_ | refine nD ?_ | refine aX rfl ?_)
          intro _u; clear _u
          exact rM [0]
theorem rleft_c {R : Env} (h : N78 R) (B : List UInt8) (r : Rd) (ok : RdOk B r) : R.Mc 78 [.loc 0 1 0 0] (rrdM R B r) (.int .i64 (if r.made = false ∨ r.e ≠ 0 then 0 else r.l.length)) (rrdM R B r) 1 :=
  h.o78.enterM 60 1 rfl rfl rfl fun X bb hfit hp => by
    have h1 := ok.made
    have h2 := ok.len
    have h3 := ok.m
    repeat ((intro _u; clear _u); first | with_reducible first | refine cT ?_ | refine cF ?_ | refine cA ?_ | refine cB ?_ | refine aLn ?_ | refine cK ?_ | refine aS8 ?_ | refine wI ?_ | refine nD ?_ | refine aX rfl ?_)
    intro _u; clear _u
    refine cS (fun h4 => ?_) (fun h4 => ?_)
    · repeat ((intro _u; clear _u); first | with_reducible first | refine cT ?_ | refine cF ?_ | refine cA ?_ | refine cB ?_ | refine aLn ?_ | refine cK ?_ | refine aS8 ?_ | refine wI ?_ | refine nD ?_ | refine aX rfl ?_)
      intro _u; clear _u
      exact rM [0]
    · repeat ((intro _u; clear _u); first | with_reducible first | refine cT ?_ | refine cF ?_ | refine cA ?_ | refine cB ?_ | refine aLn ?_ | refine cK ?_ | refine aS8 ?_ | refine wI ?_ | refine nD ?_ | refine aX rfl ?_)
      intro _u; clear _u
      refine rM [0] ?_
      all_goals repeat' (first | exact True.intro | refine And.intro ?_ ?_ | (intro _u; clear _u) | with_reducible first | refine eM ?_ ?_ | refine eF ?_ ?_ ?_ | refine eN ?_ | refine eL ?_ ?_ ?_ | refine eA ?_ ?_ | refine IWk.mk ⟨_, hp, rfl⟩ ?_ ?_)
      all_goals first | with_reducible rfl | omega | exact Or.inl (by decide) | (simp; done) | rfl | skip
      simp [h1, h4]; omega

theorem rend_c {R : Env} (h : N69 R) (B : List UInt8) (r : Rd) (ok : RdOk B r) : R.Mc 69 [.loc 0 1 0 0] (rrdM R B r) (.int .i64 r.fin) (rrdM R B r) 1 :=
  h.o69.enterM 60 1 rfl rfl rfl fun X bb hfit hp => by
    have h1 := ok.made
    have h2 := ok.len
    have h3 := ok.m
    have h5 : r.err = r.e := by simp [Rd.err, h1]
    unfold Rd.fin
    rw [h5]
    repeat ((intro _u; clear _u); first | with_reducible first | refine cT ?_ | refine cF ?_ | refine cA ?_ | refine cB ?_ | refine aLn ?_ | refine cK ?_ | refine aS8 ?_ | refine wI ?_ | refine nD ?_ | refine aX rfl ?_)
    intro _u; clear _u
    refine cS (fun h4 => ?_) (fun h4 => ?_)
    · rw [if_neg (by simpa using h4)]
      repeat ((intro _u; clear _u); first | with_reducible first | refine cT ?_ | refine cF ?_ | refine cA ?_ | refine cB ?_ | refine aLn ?_ | refine cK ?_ | refine aS8 ?_ | refine wI ?_ | refine nD ?_ | refine aX rfl ?_)
      intro _u; clear _u
      refine cS (fun h6 => ?_) (fun h6 => ?_)
      · rw [if_pos (by omega)]
        repeat ((intro _u; clear _u); first | with_reducible first | refine cT ?_ | refine cF ?_ | refine cA ?_ | refine cB ?_ | refine aLn ?_ | refine cK ?_ | refine aS8 ?_ | refine wI ?_ | refine nD ?_ | refine aX rfl ?_)
        intro _u; clear _u
        exact rM [0]
      · rw [if_neg (by omega)]
        repeat ((intro _u; clear _u); first | with_reducible first | refine cT ?_ | refine cF ?_ | refine cA ?_ | refine cB ?_ | refine aLn ?_ | refine cK ?_ | refine aS8 ?_ | refine wI ?_ | refine nD ?_ | refine aX rfl ?_)
        intro _u; clear _u
        exact rM [0]
    · rw [if_pos (by simpa using h4)]
      repeat ((intro _u; clear _u); first | with_reducible first | refine cT ?_ | refine cF ?_ | refine cA ?_ | refine cB ?_ | refine aLn ?_ | refine cK ?_ | refine aS8 ?_ | refine wI ?_ | refine nD ?_ | refine aX rfl ?_)
      intro _u; clear _u
      exact rM [0]

theorem num_err {r : Rd} {w : Int} (h : (r.num w).2.e ≠ 0) : (r.num w).1 = 0 := by
  unfold Rd.num Rd.take at h ⊢
  dsimp only at h ⊢
  generalize (if w < 1 ∨ 8 < w then (-1 : Int) else w) = v at h ⊢
  by_cases c1 : r.made = false ∨ r.e ≠ 0
  · rw [if_pos c1]; rfl
  · rw [if_neg c1] at h ⊢
    by_cases c2 : v < 0
    · rw [if_pos c2]; rfl
    · rw [if_neg c2] at h ⊢
      by_cases c3 : (r.l.length : Int) < v
      · rw [if_pos c3]; rfl
      · rw [if_neg c3] at h
        exact (c1 (.inr h)).elim
theorem num_bad {r : Rd} {w : Int} (hw : w < 1 ∨ 8 < w) (hm : r.made = true) : (r.num w).2.e ≠ 0 := by
  unfold Rd.num
  rw [if_pos hw]
  unfold Rd.take
  split
  · rename_i h
    rcases h with h | h
    · rw [hm] at h; exact absurd h (by decide)
    · exact h
  · simp
  all_goals simp

theorem rint_c {R : Env} (h : N77 R) (B : List UInt8) (r : Rd) (ok : RdOk B r) (w : Int) : R.Mc 77 [.loc 0 1 0 0, .int .i64 w] (rrdM R B r) (.int .i64 (r.int w).1) (rrdM R B (r.int w).2) 1 :=
  h.o77.enterM 100 1 rfl rfl rfl fun X bb hfit hp => by
    repeat ((intro _u; clear _u); first | with_reducible first | refine cT ?_ | refine cF ?_ | refine cA ?_ | refine cB ?_ | refine aLn ?_ | refine cK ?_ | refine aS8 ?_ | refine wI ?_ | refine nD ?_ | refine aX rfl ?_)
    intro _u; clear _u
    refine cM false [0] (rnum_c h.n61 B r ok w) ?_
    repeat ((intro _u; clear _u); first | refine eK ?_ | refine eP ?_)
    unfold Rd.int
    repeat ((intro _u; clear _u); first | with_reducible first | refine cT ?_ | refine cF ?_ | refine cA ?_ | refine cB ?_ | refine aLn ?_ | refine cK ?_ | refine aS8 ?_ | refine wI ?_ | refine nD ?_ | refine aX rfl ?_)
    intro _u; clear _u
    refine cS (fun h1 => ?_) (fun h1 => ?_)
    · have h2 : (r.num w).1 = 0 := num_err (by simpa using h1)
      by_cases hw : w < 1 ∨ 8 < w
      · rw [if_pos hw]
        repeat ((intro _u; clear _u); first | with_reducible first | refine cT ?_ | refine cF ?_ | refine cA ?_ | refine cB ?_ | refine aLn ?_ | refine cK ?_ | refine aS8 ?_ | refine wI ?_ | refine nD ?_ | refine aX rfl ?_)
        intro _u; clear _u
        exact rM [0]
      · rw [if_neg hw, h2]
        repeat ((intro _u; clear _u); first | with_reducible first | refine cT ?_ | refine cF ?_ | refine cA ?_ | refine cB ?_ | refine aLn ?_ | refine cK ?_ | refine aS8 ?_ | refine wI ?_ | refine nD ?_ | refine aX rfl ?_)
        intro _u; clear _u
        refine rM [0] ?_
        all_goals repeat' (first | exact True.intro | refine And.intro ?_ ?_ | (intro _u; clear _u) | with_reducible first | refine eM ?_ ?_ | refine eF ?_ ?_ ?_ | refine eN ?_ | refine eL ?_ ?_ ?_ | refine eA ?_ ?_ | refine IWk.mk ⟨_, hp, rfl⟩ ?_ ?_)
        all_goals first | with_reducible rfl | omega | exact Or.inl (by decide) | (simp; done) | rfl | skip
        simp [sx]
    · have hw : ¬ (w < 1 ∨ 8 < w) := fun hw => num_bad hw ok.made (by simpa using h1)
      rw [if_neg hw]
      repeat ((intro _u; clear _u); first | with_reducible first | refine cT ?_ | refine cF ?_ | refine cA ?_ | refine cB ?_ | refine aLn ?_ | refine cK ?_ | refine aS8 ?_ | refine wI ?_ | refine nD ?_ | refine aX rfl ?_)
      intro _u; clear _u
      refine ICall.pure h.n63.o63.hb (most_c h.n63 w (by omega)) rfl ?_
      have hh := half_le (w := w) (by omega) (by omega)
      have hlt := num_lt r (w := w) (by omega) (by omega)
      have e : ((256 : Int) ^ w.toNat) = ((256 ^ w.toNat : Nat) : Int) := by rw [Int.natCast_pow]; rfl
      have hlt' : ((r.num w).1 : Int) < 256 ^ w.toNat := by rw [e]; exact Int.ofNat_lt.2 hlt
      repeat ((intro _u; clear _u); first | with_reducible first | refine cT ?_ | refine cF ?_ | refine cA ?_ | refine cB ?_ | refine aLn ?_ | refine cK ?_ | refine aS8 ?_ | refine wI ?_ | refine nD ?_ | refine aX rfl ?_)
      intro _u; clear _u
      rw [Int.tdiv_eq_ediv_of_nonneg (by omega), half_eq (by omega) (by omega)]
      refine iwr_in (by simp only [inI]; omega) ?_
      repeat ((intro _u; clear _u); first | with_reducible first | refine cT ?_ | refine cF ?_ | refine cA ?_ | refine cB ?_ | refine aLn ?_ | refine cK ?_ | refine aS8 ?_ | refine wI ?_ | refine nD ?_ | refine aX rfl ?_)
      intro _u; clear _u
      refine cS (fun h3 => ?_) (fun h3 => ?_)
      · repeat ((intro _u; clear _u); first | with_reducible first | refine cT ?_ | refine cF ?_ | refine cA ?_ | refine cB ?_ | refine aLn ?_ | refine cK ?_ | refine aS8 ?_ | refine wI ?_ | refine nD ?_ | refine aX rfl ?_)
        intro _u; clear _u
        refine ICall.pure h.n63.o63.hb (most_c h.n63 w (by omega)) rfl ?_
        repeat ((intro _u; clear _u); first | with_reducible first | refine cT ?_ | refine cF ?_ | refine cA ?_ | refine cB ?_ | refine aLn ?_ | refine cK ?_ | refine aS8 ?_ | refine wI ?_ | refine nD ?_ | refine aX rfl ?_)
        intro _u; clear _u
        refine rM [0] ?_
        all_goals repeat' (first | exact True.intro | refine And.intro ?_ ?_ | (intro _u; clear _u) | with_reducible first | refine eM ?_ ?_ | refine eF ?_ ?_ ?_ | refine eN ?_ | refine eL ?_ ?_ ?_ | refine eA ?_ ?_ | refine IWk.mk ⟨_, hp, rfl⟩ ?_ ?_)
        all_goals first | with_reducible rfl | omega | exact Or.inl (by decide) | (simp; done) | rfl | skip
        unfold sx
        rw [e] at hh h3 ⊢
        generalize 256 ^ w.toNat = P at hh h3 ⊢
        rw [if_neg (by omega)]
        omega
      · repeat ((intro _u; clear _u); first | with_reducible first | refine cT ?_ | refine cF ?_ | refine cA ?_ | refine cB ?_ | refine aLn ?_ | refine cK ?_ | refine aS8 ?_ | refine wI ?_ | refine nD ?_ | refine aX rfl ?_)
        intro _u; clear _u
        refine rM [0] ?_
        all_goals repeat' (first | exact True.intro | refine And.intro ?_ ?_ | (intro _u; clear _u) | with_reducible first | refine eM ?_ ?_ | refine eF ?_ ?_ ?_ | refine eN ?_ | refine eL ?_ ?_ ?_ | refine eA ?_ ?_ | refine IWk.mk ⟨_, hp, rfl⟩ ?_ ?_)
        all_goals first | with_reducible rfl | omega | exact Or.inl (by decide) | (simp; done) | rfl | skip
        unfold sx
        rw [e] at hh h3 ⊢
        generalize 256 ^ w.toNat = P at hh h3 ⊢
        rw [if_pos (by omega)]
end Go.UM

/- What the library's functions hand back. -/


namespace Go.UM
open Go.AM
set_option maxRecDepth 4000

/-- bytes.Equal. -/
theorem eq8_c {R : Env} (h : N47 R) (a b : List UInt8) : R.Pc 47 [.isl 1 (slc8 a), .isl 1 (slc8 b)] (.bool (a == b)) :=
  h.o47.enter 60 rfl fun X bb hfit hp => by
    repeat ((intro _u; clear _u); first | with_reducible first | refine cT ?_ | refine cF ?_ | refine cA ?_ | refine cB ?_ | refine aLn ?_ | refine cK ?_ | refine aS8 ?_ | refine wI ?_ | refine nD ?_ | refine aX rfl ?_)
    intro _u; clear _u
    exact rT
end Go.UM

/- The statements of chapter 11. -/



namespace Go.UM
open Go.AM
set_option maxRecDepth 4000

theorem works11_c {R : Env} (h : N73 R) : R.Pc 73 [] (.bool true) :=
  h.o73.enter 100 rfl fun X bb hfit hp => by
    have c1 := put_c h.n54 [] 2 [258, 1] (by decide) (by simp)
    rw [show puts [] 2 [258, 1] = ([2, 1, 1, 0], 0) by decide] at c1
    have c2 := signed_c h.n71 [] 2 [-1] (by decide) (by simp [inI])
    rw [show signs [] 2 [-1] = ([255, 255], 0) by decide] at c2
    repeat ((intro _u; clear _u); first | with_reducible first | refine cT ?_ | refine cF ?_ | refine cA ?_ | refine cB ?_ | refine aLn ?_ | refine cK ?_ | refine aS8 ?_ | refine wI ?_ | refine nD ?_ | refine aX rfl ?_)
    intro _u; clear _u
    refine cM true [] (c1) ?_
    repeat ((intro _u; clear _u); first | refine eK ?_ | refine eP ?_)
    repeat ((intro _u; clear _u); first | with_reducible first | refine cT ?_ | refine cF ?_ | refine cA ?_ | refine cB ?_ | refine aLn ?_ | refine cK ?_ | refine aS8 ?_ | refine wI ?_ | refine nD ?_ | refine aX rfl ?_)
    intro _u; clear _u
    refine cM true [] (c2) ?_
    repeat ((intro _u; clear _u); first | refine eK ?_ | refine eP ?_)
    repeat ((intro _u; clear _u); first | with_reducible first | refine cT ?_ | refine cF ?_ | refine cA ?_ | refine cB ?_ | refine aLn ?_ | refine cK ?_ | refine aS8 ?_ | refine wI ?_ | refine nD ?_ | refine aX rfl ?_)
    intro _u; clear _u
    refine acnd_t (by decide) ?_
    repeat ((intro _u; clear _u); first | with_reducible first | refine cT ?_ | refine cF ?_ | refine cA ?_ | refine cB ?_ | refine aLn ?_ | refine cK ?_ | refine aS8 ?_ | refine wI ?_ | refine nD ?_ | refine aX rfl ?_)
    intro _u; clear _u
    refine cM true [] ((eq8_c h.n47 [2, 1, 1, 0] [2, 1, 1, 0]).mc h.n47.o47.hb) ?_
    repeat ((intro _u; clear _u); first | refine eK ?_ | refine eP ?_)
    repeat ((intro _u; clear _u); first | with_reducible first | refine cT ?_ | refine cF ?_ | refine cA ?_ | refine cB ?_ | refine aLn ?_ | refine cK ?_ | refine aS8 ?_ | refine wI ?_ | refine nD ?_ | refine aX rfl ?_)
    intro _u; clear _u
    refine acnd_t (by decide) ?_
    repeat ((intro _u; clear _u); first | with_reducible first | refine cT ?_ | refine cF ?_ | refine cA ?_ | refine cB ?_ | refine aLn ?_ | refine cK ?_ | refine aS8 ?_ | refine wI ?_ | refine nD ?_ | refine aX rfl ?_)
    intro _u; clear _u
    refine acnd_t (by decide) ?_
    repeat ((intro _u; clear _u); first | with_reducible first | refine cT ?_ | refine cF ?_ | refine cA ?_ | refine cB ?_ | refine aLn ?_ | refine cK ?_ | refine aS8 ?_ | refine wI ?_ | refine nD ?_ | refine aX rfl ?_)
    intro _u; clear _u
    refine cM true [] ((eq8_c h.n47 [255, 255] [255, 255]).mc h.n47.o47.hb) ?_
    repeat ((intro _u; clear _u); first | refine eK ?_ | refine eP ?_)
    repeat ((intro _u; clear _u); first | with_reducible first | refine cT ?_ | refine cF ?_ | refine cA ?_ | refine cB ?_ | refine aLn ?_ | refine cK ?_ | refine aS8 ?_ | refine wI ?_ | refine nD ?_ | refine aX rfl ?_)
    intro _u; clear _u
    exact rT

theorem puts_law {R : Env} (h : N70 R) (b : List UInt8) (w : Int) (n : List Int) (hn : ∀ x ∈ n, 0 ≤ x ∧ x ≤ 18446744073709551615) (hb : b.length ≤ maxLen) (hnl : n.length ≤ maxLen) : R.Pc 70 [.isl 1 (slc8 b), .int .i64 w, .isl 1 (slcK .u64 n)] (.bool true) :=
  h.o70.enter 100 rfl fun X bb hfit hp => by
    repeat ((intro _u; clear _u); first | with_reducible first | refine cT ?_ | refine cF ?_ | refine cA ?_ | refine cB ?_ | refine aLn ?_ | refine cK ?_ | refine aS8 ?_ | refine wI ?_ | refine nD ?_ | refine aX rfl ?_)
    intro _u; clear _u
    refine asub_eq (by exact cap8 b 40) ?_
    repeat ((intro _u; clear _u); first | with_reducible first | refine cT ?_ | refine cF ?_ | refine cA ?_ | refine cB ?_ | refine aLn ?_ | refine cK ?_ | refine aS8 ?_ | refine wI ?_ | refine nD ?_ | refine aX rfl ?_)
    intro _u; clear _u
    refine asub_eq (by exact capK .u64 n 20) ?_
    have hb' : (b.take (Int.toNat 40)).length ≤ 40 := by simp; omega
    have hn' : (n.take (Int.toNat 20)).length ≤ 20 := by simp; omega
    have hx' : ∀ x ∈ n.take (Int.toNat 20), 0 ≤ x ∧ x ≤ 18446744073709551615 := fun x hx => hn x (List.mem_of_mem_take hx)
    generalize b.take (Int.toNat 40) = b at hb' ⊢
    generalize n.take (Int.toNat 20) = n at hn' hx' ⊢
    repeat ((intro _u; clear _u); first | with_reducible first | refine cT ?_ | refine cF ?_ | refine cA ?_ | refine cB ?_ | refine aLn ?_ | refine cK ?_ | refine aS8 ?_ | refine wI ?_ | refine nD ?_ | refine aX rfl ?_)
    intro _u; clear _u
    refine cM false [] (put_c h.n54 b w n (by omega) hx') ?_
    repeat ((intro _u; clear _u); first | refine eK ?_ | refine eP ?_)
    repeat ((intro _u; clear _u); first | with_reducible first | refine cT ?_ | refine cF ?_ | refine cA ?_ | refine cB ?_ | refine aLn ?_ | refine cK ?_ | refine aS8 ?_ | refine wI ?_ | refine nD ?_ | refine aX rfl ?_)
    intro _u; clear _u
    refine cM false [] (rput_c h.n55 b w n (by omega) hx') ?_
    repeat ((intro _u; clear _u); first | refine eK ?_ | refine eP ?_)
    repeat ((intro _u; clear _u); first | with_reducible first | refine cT ?_ | refine cF ?_ | refine cA ?_ | refine cB ?_ | refine aLn ?_ | refine cK ?_ | refine aS8 ?_ | refine wI ?_ | refine nD ?_ | refine aX rfl ?_)
    intro _u; clear _u
    refine lPa 100 (fun k : Nat => k ≤ n.length) (fun k => ⟨[(0, .isl 1 (slc8 b)), (1, .int .i64 w), (7, .osl 0 (puts b w n).1.length), (8, .int .i64 (puts b w n).2), (9, .osl 1 (puts b w n).1.length), (10, .int .i64 (puts b w n).2), (11, .osl 2 ((n.take k).map (wr .i64)).length), (42, .isl 1 (slcK .u64 n)), (43, .int .i64 n.length), (44, .int .i64 k)], [(2, .arr (R.ty 10) 1 (slcK .i64 ((n.take k).map (wr .i64)))), (1, .arr (R.ty 4) 1 (slc8 (puts b w n).1)), (0, .arr (R.ty 4) 1 (slc8 (puts b w n).1))], 3⟩) (fun k => n.length - k) (0) ?_ ?_
    · exact Nat.zero_le _
    · intro k hk
      dsimp only
      repeat ((intro _u; clear _u); first | with_reducible first | refine cT ?_ | refine cF ?_ | refine cA ?_ | refine cB ?_ | refine aLn ?_ | refine cK ?_ | refine aS8 ?_ | refine wI ?_ | refine nD ?_ | refine aX rfl ?_)
      intro _u; clear _u
      refine cS (fun h1 => ?_) (fun h1 => ?_)
      · obtain ⟨x, hx⟩ : ∃ x, n[k]? = some x := ⟨_, List.getElem?_eq_getElem (by first | omega | (simp <;> omega))⟩
        repeat ((intro _u; clear _u); first | with_reducible first | refine cT ?_ | refine cF ?_ | refine cA ?_ | refine cB ?_ | refine aLn ?_ | refine cK ?_ | refine aS8 ?_ | refine wI ?_ | refine nD ?_ | refine aX rfl ?_)
        intro _u; clear _u
        refine eget_map hx ?_
        repeat ((intro _u; clear _u); first | with_reducible first | refine cT ?_ | refine cF ?_ | refine cA ?_ | refine cB ?_ | refine aLn ?_ | refine cK ?_ | refine aS8 ?_ | refine wI ?_ | refine nD ?_ | refine aX rfl ?_)
        intro _u; clear _u
        refine iwr_any ?_
        repeat ((intro _u; clear _u); first | with_reducible first | refine cT ?_ | refine cF ?_ | refine cA ?_ | refine cB ?_ | refine aLn ?_ | refine cK ?_ | refine aS8 ?_ | refine wI ?_ | refine nD ?_ | refine aX rfl ?_)
        intro _u; clear _u
        refine nX (k + 1) ?_ ?_ ⟨_, hp, rfl⟩ ?_ ?_
        · omega
        · omega
        · all_goals repeat' (first | exact True.intro | refine And.intro ?_ ?_ | (intro _u; clear _u) | with_reducible first | refine eM ?_ ?_ | refine eF ?_ ?_ ?_ | refine eN ?_ | refine eL ?_ ?_ ?_ | refine eA ?_ ?_ | refine IWk.mk ⟨_, hp, rfl⟩ ?_ ?_)
          all_goals first | with_reducible rfl | omega | exact Or.inl (by decide) | (simp; done) | rfl | skip
          rw [take_succ_get hx]; simp
        · all_goals repeat' (first | exact True.intro | refine And.intro ?_ ?_ | (intro _u; clear _u) | with_reducible first | refine eM ?_ ?_ | refine eF ?_ ?_ ?_ | refine eN ?_ | refine eL ?_ ?_ ?_ | refine eA ?_ ?_ | refine IWk.mk ⟨_, hp, rfl⟩ ?_ ?_)
          all_goals first | with_reducible rfl | omega | exact Or.inl (by decide) | (simp; done) | rfl | skip
          rw [take_succ_get hx]; simp [slcK]
      · have hkn : n.take k = n := List.take_of_length_le (by omega)
        rw [hkn]
        have hl : ∀ x ∈ n.map (wr .i64), inI .i64 x := by
          intro x hx
          obtain ⟨y, _, rfl⟩ := List.mem_map.1 hx
          exact wr_inI _ _
        repeat ((intro _u; clear _u); first | with_reducible first | refine cT ?_ | refine cF ?_ | refine cA ?_ | refine cB ?_ | refine aLn ?_ | refine cK ?_ | refine aS8 ?_ | refine wI ?_ | refine nD ?_ | refine aX rfl ?_)
        intro _u; clear _u
        refine cM true [] (signed_c h.n71 b w (n.map (wr .i64)) (by simp; omega) hl) ?_
        repeat ((intro _u; clear _u); first | refine eK ?_ | refine eP ?_)
        repeat ((intro _u; clear _u); first | with_reducible first | refine cT ?_ | refine cF ?_ | refine cA ?_ | refine cB ?_ | refine aLn ?_ | refine cK ?_ | refine aS8 ?_ | refine wI ?_ | refine nD ?_ | refine aX rfl ?_)
        intro _u; clear _u
        refine cM true [] (rsigned_c h.n72 b w (n.map (wr .i64)) (by simp; omega) hl) ?_
        repeat ((intro _u; clear _u); first | refine eK ?_ | refine eP ?_)
        repeat ((intro _u; clear _u); first | with_reducible first | refine cT ?_ | refine cF ?_ | refine cA ?_ | refine cB ?_ | refine aLn ?_ | refine cK ?_ | refine aS8 ?_ | refine wI ?_ | refine nD ?_ | refine aX rfl ?_)
        intro _u; clear _u
        refine cM true [] ((eq8_c h.n47 (puts b w n).1 (puts b w n).1).mc h.n47.o47.hb) ?_
        repeat ((intro _u; clear _u); first | refine eK ?_ | refine eP ?_)
        repeat ((intro _u; clear _u); first | with_reducible first | refine cT ?_ | refine cF ?_ | refine cA ?_ | refine cB ?_ | refine aLn ?_ | refine cK ?_ | refine aS8 ?_ | refine wI ?_ | refine nD ?_ | refine aX rfl ?_)
        intro _u; clear _u
        refine acnd_t (by simp) ?_
        repeat ((intro _u; clear _u); first | with_reducible first | refine cT ?_ | refine cF ?_ | refine cA ?_ | refine cB ?_ | refine aLn ?_ | refine cK ?_ | refine aS8 ?_ | refine wI ?_ | refine nD ?_ | refine aX rfl ?_)
        intro _u; clear _u
        refine acnd_t (by simp) ?_
        repeat ((intro _u; clear _u); first | with_reducible first | refine cT ?_ | refine cF ?_ | refine cA ?_ | refine cB ?_ | refine aLn ?_ | refine cK ?_ | refine aS8 ?_ | refine wI ?_ | refine nD ?_ | refine aX rfl ?_)
        intro _u; clear _u
        refine cM true [] ((eq8_c h.n47 (signs b w (n.map (wr .i64))).1 (signs b w (n.map (wr .i64))).1).mc h.n47.o47.hb) ?_
        repeat ((intro _u; clear _u); first | refine eK ?_ | refine eP ?_)
        repeat ((intro _u; clear _u); first | with_reducible first | refine cT ?_ | refine cF ?_ | refine cA ?_ | refine cB ?_ | refine aLn ?_ | refine cK ?_ | refine aS8 ?_ | refine wI ?_ | refine nD ?_ | refine aX rfl ?_)
        intro _u; clear _u
        refine acnd_t (by simp) ?_
        repeat ((intro _u; clear _u); first | with_reducible first | refine cT ?_ | refine cF ?_ | refine cA ?_ | refine cB ?_ | refine aLn ?_ | refine cK ?_ | refine aS8 ?_ | refine wI ?_ | refine nD ?_ | refine aX rfl ?_)
        intro _u; clear _u
        refine acnd_t (by simp) ?_
        repeat ((intro _u; clear _u); first | with_reducible first | refine cT ?_ | refine cF ?_ | refine cA ?_ | refine cB ?_ | refine aLn ?_ | refine cK ?_ | refine aS8 ?_ | refine wI ?_ | refine nD ?_ | refine aX rfl ?_)
        intro _u; clear _u
        refine ICall.pure h.n73.o73.hb (works11_c h.n73) rfl ?_
        repeat ((intro _u; clear _u); first | with_reducible first | refine cT ?_ | refine cF ?_ | refine cA ?_ | refine cB ?_ | refine aLn ?_ | refine cK ?_ | refine aS8 ?_ | refine wI ?_ | refine nD ?_ | refine aX rfl ?_)
        intro _u; clear _u
        exact rT
theorem put_p {R : Env} (h : N54 R) (b : List UInt8) (w : Int) (n : List Int) (hl : b.length + 8 * n.length ≤ 1073741824) (hn : ∀ x ∈ n, 0 ≤ x ∧ x ≤ 18446744073709551615) :
    R.Pc 54 [.isl 1 (slc8 b), .int .i64 w, .isl 1 (slcK .u64 n)] (.tup [.isl 1 (slc8 (puts b w n).1), .int .i64 (puts b w n).2]) :=
  (put_c h b w n hl hn).pc fZ
theorem signed_p {R : Env} (h : N71 R) (b : List UInt8) (w : Int) (n : List Int) (hl : b.length + 8 * n.length ≤ 1073741824) (hn : ∀ x ∈ n, inI .i64 x) :
    R.Pc 71 [.isl 1 (slc8 b), .int .i64 w, .isl 1 (slcK .i64 n)] (.tup [.isl 1 (slc8 (signs b w n).1), .int .i64 (signs b w n).2]) :=
  (signed_c h b w n hl hn).pc fZ

theorem tmod_bound (w : Int) {m : Int} (hm : 0 < m) : -m < w.tmod m ∧ w.tmod m < m := by
  refine ⟨?_, Int.tmod_lt_of_pos w hm⟩
  by_cases h : 0 ≤ w
  · have := Int.tmod_nonneg m h
    omega
  · have h1 := Int.tmod_lt_of_pos (-w) hm
    rw [Int.neg_tmod] at h1
    omega

theorem puts_one {w n : Int} (h1 : 1 ≤ w) (h2 : w ≤ 8) (h : ¬ 256 ^ w.toNat ≤ n) : puts [] w [n] = (enc w.toNat n, 0) := by
  rw [puts_ok h1 h2 (by simp only [List.any_cons, List.any_nil, Bool.or_false, decide_eq_false_iff_not]; exact h)]
  simp

theorem widths_law {R : Env} (h : N74 R) (n w : Int) (hn : inI .u64 n) (hw : inI .i64 w) : R.Pc 74 [.int .u64 n, .int .i64 w] (.bool true) :=
  h.o74.enter 100 rfl fun X bb hfit hp => by
    simp only [inI] at hn hw
    have b1 := tmod_bound w (m := 7) (by decide)
    have b2 : 0 ≤ (w.tmod 7 + 7).tmod 7 ∧ (w.tmod 7 + 7).tmod 7 < 7 := ⟨Int.tmod_nonneg _ (by omega), Int.tmod_lt_of_pos _ (by decide)⟩
    repeat ((intro _u; clear _u); first | with_reducible first | refine cT ?_ | refine cF ?_ | refine cA ?_ | refine cB ?_ | refine aLn ?_ | refine cK ?_ | refine aS8 ?_ | refine wI ?_ | refine nD ?_ | refine aX rfl ?_)
    generalize hv : (w.tmod 7 + 7).tmod 7 + 1 = v
    have hv1 : 1 ≤ v ∧ v ≤ 7 := by omega
    have hx : ∀ x ∈ [n], 0 ≤ x ∧ x ≤ 18446744073709551615 := by simpa using hn
    repeat ((intro _u; clear _u); first | with_reducible first | refine cT ?_ | refine cF ?_ | refine cA ?_ | refine cB ?_ | refine aLn ?_ | refine cK ?_ | refine aS8 ?_ | refine wI ?_ | refine nD ?_ | refine aX rfl ?_)
    intro _u; clear _u
    refine ICall.let [0] rfl hp rfl ?_
    repeat ((intro _u; clear _u); first | refine eZ ?_ | refine FrzC.drop ?_)
    refine ICall.tr ?_
    repeat ((intro _u; clear _u); first | with_reducible first | refine cT ?_ | refine cF ?_ | refine cA ?_ | refine cB ?_ | refine aLn ?_ | refine cK ?_ | refine aS8 ?_ | refine wI ?_ | refine nD ?_ | refine aX rfl ?_)
    intro _u; clear _u
    refine cM false [] ((put_p h.n54 [] v [n] (by simp) hx).mc h.n54.o54.hb) ?_
    repeat ((intro _u; clear _u); first | refine eK ?_ | refine eP ?_)
    repeat ((intro _u; clear _u); first | with_reducible first | refine cT ?_ | refine cF ?_ | refine cA ?_ | refine cB ?_ | refine aLn ?_ | refine cK ?_ | refine aS8 ?_ | refine wI ?_ | refine nD ?_ | refine aX rfl ?_)
    intro _u; clear _u
    refine ICall.let [1] rfl hp rfl ?_
    repeat ((intro _u; clear _u); first | refine eZ ?_ | refine FrzC.drop ?_)
    refine ICall.tr ?_
    repeat ((intro _u; clear _u); first | with_reducible first | refine cT ?_ | refine cF ?_ | refine cA ?_ | refine cB ?_ | refine aLn ?_ | refine cK ?_ | refine aS8 ?_ | refine wI ?_ | refine nD ?_ | refine aX rfl ?_)
    intro _u; clear _u
    refine cM false [] ((put_p h.n54 [] (v + 1) [n] (by simp) hx).mc h.n54.o54.hb) ?_
    repeat ((intro _u; clear _u); first | refine eK ?_ | refine eP ?_)
    by_cases hb : 256 ^ v.toNat ≤ n
    · rw [puts_bad (x := n) (by omega) (by omega) (by simp) hb]
      repeat ((intro _u; clear _u); first | with_reducible first | refine cT ?_ | refine cF ?_ | refine cA ?_ | refine cB ?_ | refine aLn ?_ | refine cK ?_ | refine aS8 ?_ | refine wI ?_ | refine nD ?_ | refine aX rfl ?_)
      intro _u; clear _u
      refine acnd_t (by decide) ?_
      repeat ((intro _u; clear _u); first | with_reducible first | refine cT ?_ | refine cF ?_ | refine cA ?_ | refine cB ?_ | refine aLn ?_ | refine cK ?_ | refine aS8 ?_ | refine wI ?_ | refine nD ?_ | refine aX rfl ?_)
      intro _u; clear _u
      refine acnd_t (by decide) ?_
      repeat ((intro _u; clear _u); first | with_reducible first | refine cT ?_ | refine cF ?_ | refine cA ?_ | refine cB ?_ | refine aLn ?_ | refine cK ?_ | refine aS8 ?_ | refine wI ?_ | refine nD ?_ | refine aX rfl ?_)
      intro _u; clear _u
      refine ICall.pure h.n73.o73.hb (works11_c h.n73) rfl ?_
      repeat ((intro _u; clear _u); first | with_reducible first | refine cT ?_ | refine cF ?_ | refine cA ?_ | refine cB ?_ | refine aLn ?_ | refine cK ?_ | refine aS8 ?_ | refine wI ?_ | refine nD ?_ | refine aX rfl ?_)
      intro _u; clear _u
      exact rT
    · have hp1 := pow_ge1 v.toNat
      have hb2 : ¬ 256 ^ (v + 1).toNat ≤ n := by
        rw [show (v + 1).toNat = v.toNat + 1 by omega, Int.pow_succ]
        omega
      rw [puts_one (by omega) (by omega) hb, puts_one (by omega) (by omega) hb2]
      have hdrop : (enc (v + 1).toNat n).take v.toNat = enc v.toNat n := by
        rw [show (v + 1).toNat = v.toNat + 1 by omega, enc_succ, List.take_left' (by simp)]
      have hlast : (enc (v + 1).toNat n)[v.toNat]? = some 0 := by
        rw [show (v + 1).toNat = v.toNat + 1 by omega, enc_succ, List.getElem?_append_right (by simp)]
        simp
        rw [Int.ediv_eq_zero_of_lt hn.1 (by omega)]
        rfl
      repeat ((intro _u; clear _u); first | with_reducible first | refine cT ?_ | refine cF ?_ | refine cA ?_ | refine cB ?_ | refine aLn ?_ | refine cK ?_ | refine aS8 ?_ | refine wI ?_ | refine nD ?_ | refine aX rfl ?_)
      intro _u; clear _u
      refine acnd_f (by rfl) ?_
      repeat ((intro _u; clear _u); first | with_reducible first | refine cT ?_ | refine cF ?_ | refine cA ?_ | refine cB ?_ | refine aLn ?_ | refine cK ?_ | refine aS8 ?_ | refine wI ?_ | refine nD ?_ | refine aX rfl ?_)
      intro _u; clear _u
      refine acnd_t (by rfl) ?_
      repeat ((intro _u; clear _u); first | with_reducible first | refine cT ?_ | refine cF ?_ | refine cA ?_ | refine cB ?_ | refine aLn ?_ | refine cK ?_ | refine aS8 ?_ | refine wI ?_ | refine nD ?_ | refine aX rfl ?_)
      intro _u; clear _u
      refine acnd_t (by (simp; omega)) ?_
      repeat ((intro _u; clear _u); first | with_reducible first | refine cT ?_ | refine cF ?_ | refine cA ?_ | refine cB ?_ | refine aLn ?_ | refine cK ?_ | refine aS8 ?_ | refine wI ?_ | refine nD ?_ | refine aX rfl ?_)
      intro _u; clear _u
      refine acnd_t (by (simp; omega)) ?_
      repeat ((intro _u; clear _u); first | with_reducible first | refine cT ?_ | refine cF ?_ | refine cA ?_ | refine cB ?_ | refine aLn ?_ | refine cK ?_ | refine aS8 ?_ | refine wI ?_ | refine nD ?_ | refine aX rfl ?_)
      intro _u; clear _u
      refine asub_eq (by exact (show (slc8 (enc (v + 1).toNat n)).take v.toNat = slc8 (enc v.toNat n) from by rw [slc8_take, hdrop])) ?_
      repeat ((intro _u; clear _u); first | with_reducible first | refine cT ?_ | refine cF ?_ | refine cA ?_ | refine cB ?_ | refine aLn ?_ | refine cK ?_ | refine aS8 ?_ | refine wI ?_ | refine nD ?_ | refine aX rfl ?_)
      intro _u; clear _u
      refine acnd_t (by simp) ?_
      repeat ((intro _u; clear _u); first | with_reducible first | refine cT ?_ | refine cF ?_ | refine cA ?_ | refine cB ?_ | refine aLn ?_ | refine cK ?_ | refine aS8 ?_ | refine wI ?_ | refine nD ?_ | refine aX rfl ?_)
      intro _u; clear _u
      refine get8 hlast ?_
      repeat ((intro _u; clear _u); first | with_reducible first | refine cT ?_ | refine cF ?_ | refine cA ?_ | refine cB ?_ | refine aLn ?_ | refine cK ?_ | refine aS8 ?_ | refine wI ?_ | refine nD ?_ | refine aX rfl ?_)
      intro _u; clear _u
      refine acnd_t (by decide) ?_
      repeat ((intro _u; clear _u); first | with_reducible first | refine cT ?_ | refine cF ?_ | refine cA ?_ | refine cB ?_ | refine aLn ?_ | refine cK ?_ | refine aS8 ?_ | refine wI ?_ | refine nD ?_ | refine aX rfl ?_)
      intro _u; clear _u
      refine ICall.pure h.n73.o73.hb (works11_c h.n73) rfl ?_
      repeat ((intro _u; clear _u); first | with_reducible first | refine cT ?_ | refine cF ?_ | refine cA ?_ | refine cB ?_ | refine aLn ?_ | refine cK ?_ | refine aS8 ?_ | refine wI ?_ | refine nD ?_ | refine aX rfl ?_)
      intro _u; clear _u
      exact rT
end Go.UM

/- What comes in, opened. -/


namespace Go.UM
open Go.AM

theorem open8 {T : TT} {n e : Nat} {es : List (List AV)} (hT : T.d e = .int .u8) (h : ∀ r ∈ es, cty T (n + 1) e r) : ∃ l : List UInt8, es = slc8 l := by
  obtain ⟨l, rfl, _⟩ := rows_map (f := fun c : UInt8 => [AV.int .u8 c.toNat]) (p := fun _ => True) (es := es) fun r hr => by
    have h1 := h r hr
    simp only [cty, hT] at h1
    obtain ⟨x, rfl, hx⟩ := h1
    have hx := wf_in hx
    simp only [inI] at hx
    refine ⟨u8 x, ?_, trivial⟩
    rw [← wr_u8, wr_in (k := .u8) hx]
  exact ⟨l, rfl⟩

theorem openK {T : TT} {n e : Nat} {k : IntKind} {es : List (List AV)} (hT : T.d e = .int k) (h : ∀ r ∈ es, cty T (n + 1) e r) : ∃ l : List Int, es = slcK k l ∧ ∀ x ∈ l, inI k x := by
  obtain ⟨l, rfl, hl⟩ := rows_map (f := fun c : Int => [AV.int k c]) (p := fun c => inI k c) (es := es) fun r hr => by
    have h1 := h r hr
    simp only [cty, hT] at h1
    obtain ⟨x, rfl, hx⟩ := h1
    exact ⟨x, rfl, wf_in hx⟩
  exact ⟨l, rfl, hl⟩
end Go.UM

/- The statements of chapter 11, part 2: the reader. -/

namespace Go.UM
open Go.AM
set_option maxRecDepth 4000

/-- A reader that New did not make. -/
def noRd : Rd := ⟨[], 0, false⟩
theorem noRd_num (w : Int) : noRd.num w = (0, noRd) := rfl
theorem noRd_take (w : Int) : noRd.take w = ([], noRd) := rfl
theorem noRd_int (w : Int) : noRd.int w = (0, noRd) := by
  unfold Rd.int
  rw [noRd_num]
  by_cases h : w < 1 ∨ 8 < w
  · rw [if_pos h]
  · rw [if_neg h]
    have := pow_ge1 w.toNat
    have e : ((256 : Int) ^ w.toNat) = ((256 ^ w.toNat : Nat) : Int) := by rw [Int.natCast_pow]; rfl
    have h0 : sx w 0 = 0 := by
      unfold sx
      rw [if_pos (by omega)]
      rfl
    rw [h0]

def slcA (l : List (Int × Int)) : List (List AV) := l.map fun a => [.int .i64 a.1, .int .i64 a.2]
@[simp] theorem slcA_length (l : List (Int × Int)) : (slcA l).length = l.length := by simp [slcA]
instance {l : List (Int × Int)} : LenOf (slcA l) l.length := ⟨slcA_length l⟩




theorem reads_law {R : Env} (h : N75 R) (b : List UInt8) (asks : List (Int × Int)) (ha : ∀ a ∈ asks, inI .i64 a.1 ∧ inI .i64 a.2) (hal : asks.length ≤ maxLen) : R.Pc 75 [.isl 1 (slc8 b), .isl 2 (slcA asks)] (.bool true) :=
  h.o75.enter 200 rfl fun X bb hfit hp => by
    repeat ((intro _u; clear _u); first | with_reducible first | refine cT ?_ | refine cF ?_ | refine cA ?_ | refine cB ?_ | refine aLn ?_ | refine cK ?_ | refine aS8 ?_ | refine wI ?_ | refine nD ?_ | refine aX rfl ?_)
    intro _u; clear _u
    refine asub_eq (by exact cap8 b 200) ?_
    have hb' : (b.take (Int.toNat 200)).length ≤ 200 := by simp; omega
    generalize b.take (Int.toNat 200) = B at hb' ⊢
    repeat ((intro _u; clear _u); first | with_reducible first | refine cT ?_ | refine cF ?_ | refine cA ?_ | refine cB ?_ | refine aLn ?_ | refine cK ?_ | refine aS8 ?_ | refine wI ?_ | refine nD ?_ | refine aX rfl ?_)
    intro _u; clear _u
    refine cM false [] (new_c h.n56 B (by omega)) ?_
    repeat ((intro _u; clear _u); first | refine eK ?_ | refine eP ?_)
    repeat ((intro _u; clear _u); first | with_reducible first | refine cT ?_ | refine cF ?_ | refine cA ?_ | refine cB ?_ | refine aLn ?_ | refine cK ?_ | refine aS8 ?_ | refine wI ?_ | refine nD ?_ | refine aX rfl ?_)
    intro _u; clear _u
    refine lPa 200 (fun s : Nat × Rd => s.1 ≤ asks.length ∧ RdOk B s.2) (fun s => ⟨[(1, .isl 2 (slcA asks)), (5, .loc 0 1 0 0), (6, .loc 1 1 0 0), (7, .loc 2 1 0 0), (8, .int .i64 s.1)], [(0, .var (R.ty 9) s.2.row), (1, .var (R.ty 8) [.isl 1 (slc8 B), .int .i64 (B.length - s.2.l.length), .int .i64 s.2.e]), (2, .var (R.ty 9) noRd.row)], 3⟩) (fun s => asks.length - s.1) ((0, ⟨B, 0, true⟩)) ?_ ?_
    · exact ⟨Nat.zero_le _, RdOk.new (by omega)⟩
    · rintro ⟨i, r⟩ ⟨hi, ok⟩
      dsimp only at hi ok ⊢
      repeat ((intro _u; clear _u); first | with_reducible first | refine cT ?_ | refine cF ?_ | refine cA ?_ | refine cB ?_ | refine aLn ?_ | refine cK ?_ | refine aS8 ?_ | refine wI ?_ | refine nD ?_ | refine aX rfl ?_)
      intro _u; clear _u
      refine cS (fun h1 => ?_) (fun h1 => ?_)
      · repeat ((intro _u; clear _u); first | with_reducible first | refine cT ?_ | refine cF ?_ | refine cA ?_ | refine cB ?_ | refine aLn ?_ | refine cK ?_ | refine aS8 ?_ | refine wI ?_ | refine nD ?_ | refine aX rfl ?_)
        intro _u; clear _u
        refine cS (fun h2 => ?_) (fun h2 => ?_)
        · obtain ⟨a, ha⟩ : ∃ x, asks[i]? = some x := ⟨_, List.getElem?_eq_getElem (by first | omega | (simp <;> omega))⟩
          repeat ((intro _u; clear _u); first | with_reducible first | refine cT ?_ | refine cF ?_ | refine cA ?_ | refine cB ?_ | refine aLn ?_ | refine cK ?_ | refine aS8 ?_ | refine wI ?_ | refine nD ?_ | refine aX rfl ?_)
          intro _u; clear _u
          refine eget_map ha ?_
          obtain ⟨k, m⟩ := a
          repeat ((intro _u; clear _u); first | with_reducible first | refine cT ?_ | refine cF ?_ | refine cA ?_ | refine cB ?_ | refine aLn ?_ | refine cK ?_ | refine aS8 ?_ | refine wI ?_ | refine nD ?_ | refine aX rfl ?_)
          intro _u; clear _u
          refine cS (fun h3 => ?_) (fun h3 => ?_)
          · repeat ((intro _u; clear _u); first | with_reducible first | refine cT ?_ | refine cF ?_ | refine cA ?_ | refine cB ?_ | refine aLn ?_ | refine cK ?_ | refine aS8 ?_ | refine wI ?_ | refine nD ?_ | refine aX rfl ?_)
            intro _u; clear _u
            refine cM false [0] (num_c h.n57 r m) ?_
            repeat ((intro _u; clear _u); first | refine eK ?_ | refine eP ?_)
            repeat ((intro _u; clear _u); first | with_reducible first | refine cT ?_ | refine cF ?_ | refine cA ?_ | refine cB ?_ | refine aLn ?_ | refine cK ?_ | refine aS8 ?_ | refine wI ?_ | refine nD ?_ | refine aX rfl ?_)
            intro _u; clear _u
            refine cM false [1] (rnum_c h.n61 B r ok m) ?_
            repeat ((intro _u; clear _u); first | refine eK ?_ | refine eP ?_)
            have n1 := num_c h.n57 noRd m
            rw [noRd_num] at n1
            repeat ((intro _u; clear _u); first | with_reducible first | refine cT ?_ | refine cF ?_ | refine cA ?_ | refine cB ?_ | refine aLn ?_ | refine cK ?_ | refine aS8 ?_ | refine wI ?_ | refine nD ?_ | refine aX rfl ?_)
            intro _u; clear _u
            refine acnd_f (by simp) ?_
            repeat ((intro _u; clear _u); first | with_reducible first | refine cT ?_ | refine cF ?_ | refine cA ?_ | refine cB ?_ | refine aLn ?_ | refine cK ?_ | refine aS8 ?_ | refine wI ?_ | refine nD ?_ | refine aX rfl ?_)
            intro _u; clear _u
            refine cM false [2] (n1) ?_
            repeat ((intro _u; clear _u); first | refine eK ?_ | refine eP ?_)
            repeat ((intro _u; clear _u); first | with_reducible first | refine cT ?_ | refine cF ?_ | refine cA ?_ | refine cB ?_ | refine aLn ?_ | refine cK ?_ | refine aS8 ?_ | refine wI ?_ | refine nD ?_ | refine aX rfl ?_)
            intro _u; clear _u
            refine acnd_f (by decide) ?_
            have ok2 := ok.num m
            generalize (r.num m).2 = r2 at ok2 ⊢
            repeat ((intro _u; clear _u); first | with_reducible first | refine cT ?_ | refine cF ?_ | refine cA ?_ | refine cB ?_ | refine aLn ?_ | refine cK ?_ | refine aS8 ?_ | refine wI ?_ | refine nD ?_ | refine aX rfl ?_)
            intro _u; clear _u
            refine cM false [0] (left_c h.n68 r2) ?_
            repeat ((intro _u; clear _u); first | refine eK ?_ | refine eP ?_)
            repeat ((intro _u; clear _u); first | with_reducible first | refine cT ?_ | refine cF ?_ | refine cA ?_ | refine cB ?_ | refine aLn ?_ | refine cK ?_ | refine aS8 ?_ | refine wI ?_ | refine nD ?_ | refine aX rfl ?_)
            intro _u; clear _u
            refine cM false [1] (rleft_c h.n78 B r2 ok2) ?_
            repeat ((intro _u; clear _u); first | refine eK ?_ | refine eP ?_)
            repeat ((intro _u; clear _u); first | with_reducible first | refine cT ?_ | refine cF ?_ | refine cA ?_ | refine cB ?_ | refine aLn ?_ | refine cK ?_ | refine aS8 ?_ | refine wI ?_ | refine nD ?_ | refine aX rfl ?_)
            intro _u; clear _u
            refine acnd_f (by simp) ?_
            repeat ((intro _u; clear _u); first | with_reducible first | refine cT ?_ | refine cF ?_ | refine cA ?_ | refine cB ?_ | refine aLn ?_ | refine cK ?_ | refine aS8 ?_ | refine wI ?_ | refine nD ?_ | refine aX rfl ?_)
            intro _u; clear _u
            refine cM false [0] (err_c h.n65 r2) ?_
            repeat ((intro _u; clear _u); first | refine eK ?_ | refine eP ?_)
            repeat ((intro _u; clear _u); first | with_reducible first | refine cT ?_ | refine cF ?_ | refine cA ?_ | refine cB ?_ | refine aLn ?_ | refine cK ?_ | refine aS8 ?_ | refine wI ?_ | refine nD ?_ | refine aX rfl ?_)
            intro _u; clear _u
            refine acnd_f (by (simp [Rd.err, ok2.made])) ?_
            repeat ((intro _u; clear _u); first | with_reducible first | refine cT ?_ | refine cF ?_ | refine cA ?_ | refine cB ?_ | refine aLn ?_ | refine cK ?_ | refine aS8 ?_ | refine wI ?_ | refine nD ?_ | refine aX rfl ?_)
            intro _u; clear _u
            refine cM false [0] (end_c h.n60 r2) ?_
            repeat ((intro _u; clear _u); first | refine eK ?_ | refine eP ?_)
            repeat ((intro _u; clear _u); first | with_reducible first | refine cT ?_ | refine cF ?_ | refine cA ?_ | refine cB ?_ | refine aLn ?_ | refine cK ?_ | refine aS8 ?_ | refine wI ?_ | refine nD ?_ | refine aX rfl ?_)
            intro _u; clear _u
            refine cM false [1] (rend_c h.n69 B r2 ok2) ?_
            repeat ((intro _u; clear _u); first | refine eK ?_ | refine eP ?_)
            repeat ((intro _u; clear _u); first | with_reducible first | refine cT ?_ | refine cF ?_ | refine cA ?_ | refine cB ?_ | refine aLn ?_ | refine cK ?_ | refine aS8 ?_ | refine wI ?_ | refine nD ?_ | refine aX rfl ?_)
            intro _u; clear _u
            refine acnd_f (by simp) ?_
            repeat ((intro _u; clear _u); first | with_reducible first | refine cT ?_ | refine cF ?_ | refine cA ?_ | refine cB ?_ | refine aLn ?_ | refine cK ?_ | refine aS8 ?_ | refine wI ?_ | refine nD ?_ | refine aX rfl ?_)
            intro _u; clear _u
            refine nXa ((i + 1, r2)) ?_ ?_
            · exact ⟨by simp; omega, ok2⟩
            · simp; omega
          · repeat ((intro _u; clear _u); first | with_reducible first | refine cT ?_ | refine cF ?_ | refine cA ?_ | refine cB ?_ | refine aLn ?_ | refine cK ?_ | refine aS8 ?_ | refine wI ?_ | refine nD ?_ | refine aX rfl ?_)
            intro _u; clear _u
            refine cS (fun h4 => ?_) (fun h4 => ?_)
            · repeat ((intro _u; clear _u); first | with_reducible first | refine cT ?_ | refine cF ?_ | refine cA ?_ | refine cB ?_ | refine aLn ?_ | refine cK ?_ | refine aS8 ?_ | refine wI ?_ | refine nD ?_ | refine aX rfl ?_)
              intro _u; clear _u
              refine cM false [0] (int_c h.n76 r m) ?_
              repeat ((intro _u; clear _u); first | refine eK ?_ | refine eP ?_)
              repeat ((intro _u; clear _u); first | with_reducible first | refine cT ?_ | refine cF ?_ | refine cA ?_ | refine cB ?_ | refine aLn ?_ | refine cK ?_ | refine aS8 ?_ | refine wI ?_ | refine nD ?_ | refine aX rfl ?_)
              intro _u; clear _u
              refine cM false [1] (rint_c h.n77 B r ok m) ?_
              repeat ((intro _u; clear _u); first | refine eK ?_ | refine eP ?_)
              have n1 := int_c h.n76 noRd m
              rw [noRd_int] at n1
              repeat ((intro _u; clear _u); first | with_reducible first | refine cT ?_ | refine cF ?_ | refine cA ?_ | refine cB ?_ | refine aLn ?_ | refine cK ?_ | refine aS8 ?_ | refine wI ?_ | refine nD ?_ | refine aX rfl ?_)
              intro _u; clear _u
              refine acnd_f (by simp) ?_
              repeat ((intro _u; clear _u); first | with_reducible first | refine cT ?_ | refine cF ?_ | refine cA ?_ | refine cB ?_ | refine aLn ?_ | refine cK ?_ | refine aS8 ?_ | refine wI ?_ | refine nD ?_ | refine aX rfl ?_)
              intro _u; clear _u
              refine cM false [2] (n1) ?_
              repeat ((intro _u; clear _u); first | refine eK ?_ | refine eP ?_)
              repeat ((intro _u; clear _u); first | with_reducible first | refine cT ?_ | refine cF ?_ | refine cA ?_ | refine cB ?_ | refine aLn ?_ | refine cK ?_ | refine aS8 ?_ | refine wI ?_ | refine nD ?_ | refine aX rfl ?_)
              intro _u; clear _u
              refine acnd_f (by decide) ?_
              have ok2 := ok.int m
              generalize (r.int m).2 = r2 at ok2 ⊢
              repeat ((intro _u; clear _u); first | with_reducible first | refine cT ?_ | refine cF ?_ | refine cA ?_ | refine cB ?_ | refine aLn ?_ | refine cK ?_ | refine aS8 ?_ | refine wI ?_ | refine nD ?_ | refine aX rfl ?_)
              intro _u; clear _u
              refine cM false [0] (left_c h.n68 r2) ?_
              repeat ((intro _u; clear _u); first | refine eK ?_ | refine eP ?_)
              repeat ((intro _u; clear _u); first | with_reducible first | refine cT ?_ | refine cF ?_ | refine cA ?_ | refine cB ?_ | refine aLn ?_ | refine cK ?_ | refine aS8 ?_ | refine wI ?_ | refine nD ?_ | refine aX rfl ?_)
              intro _u; clear _u
              refine cM false [1] (rleft_c h.n78 B r2 ok2) ?_
              repeat ((intro _u; clear _u); first | refine eK ?_ | refine eP ?_)
              repeat ((intro _u; clear _u); first | with_reducible first | refine cT ?_ | refine cF ?_ | refine cA ?_ | refine cB ?_ | refine aLn ?_ | refine cK ?_ | refine aS8 ?_ | refine wI ?_ | refine nD ?_ | refine aX rfl ?_)
              intro _u; clear _u
              refine acnd_f (by simp) ?_
              repeat ((intro _u; clear _u); first | with_reducible first | refine cT ?_ | refine cF ?_ | refine cA ?_ | refine cB ?_ | refine aLn ?_ | refine cK ?_ | refine aS8 ?_ | refine wI ?_ | refine nD ?_ | refine aX rfl ?_)
              intro _u; clear _u
              refine cM false [0] (err_c h.n65 r2) ?_
              repeat ((intro _u; clear _u); first | refine eK ?_ | refine eP ?_)
              repeat ((intro _u; clear _u); first | with_reducible first | refine cT ?_ | refine cF ?_ | refine cA ?_ | refine cB ?_ | refine aLn ?_ | refine cK ?_ | refine aS8 ?_ | refine wI ?_ | refine nD ?_ | refine aX rfl ?_)
              intro _u; clear _u
              refine acnd_f (by (simp [Rd.err, ok2.made])) ?_
              repeat ((intro _u; clear _u); first | with_reducible first | refine cT ?_ | refine cF ?_ | refine cA ?_ | refine cB ?_ | refine aLn ?_ | refine cK ?_ | refine aS8 ?_ | refine wI ?_ | refine nD ?_ | refine aX rfl ?_)
              intro _u; clear _u
              refine cM false [0] (end_c h.n60 r2) ?_
              repeat ((intro _u; clear _u); first | refine eK ?_ | refine eP ?_)
              repeat ((intro _u; clear _u); first | with_reducible first | refine cT ?_ | refine cF ?_ | refine cA ?_ | refine cB ?_ | refine aLn ?_ | refine cK ?_ | refine aS8 ?_ | refine wI ?_ | refine nD ?_ | refine aX rfl ?_)
              intro _u; clear _u
              refine cM false [1] (rend_c h.n69 B r2 ok2) ?_
              repeat ((intro _u; clear _u); first | refine eK ?_ | refine eP ?_)
              repeat ((intro _u; clear _u); first | with_reducible first | refine cT ?_ | refine cF ?_ | refine cA ?_ | refine cB ?_ | refine aLn ?_ | refine cK ?_ | refine aS8 ?_ | refine wI ?_ | refine nD ?_ | refine aX rfl ?_)
              intro _u; clear _u
              refine acnd_f (by simp) ?_
              repeat ((intro _u; clear _u); first | with_reducible first | refine cT ?_ | refine cF ?_ | refine cA ?_ | refine cB ?_ | refine aLn ?_ | refine cK ?_ | refine aS8 ?_ | refine wI ?_ | refine nD ?_ | refine aX rfl ?_)
              intro _u; clear _u
              refine nXa ((i + 1, r2)) ?_ ?_
              · exact ⟨by simp; omega, ok2⟩
              · simp; omega
            · repeat ((intro _u; clear _u); first | with_reducible first | refine cT ?_ | refine cF ?_ | refine cA ?_ | refine cB ?_ | refine aLn ?_ | refine cK ?_ | refine aS8 ?_ | refine wI ?_ | refine nD ?_ | refine aX rfl ?_)
              intro _u; clear _u
              refine cM false [0] (take_c h.n59 r m) ?_
              repeat ((intro _u; clear _u); first | refine eK ?_ | refine eP ?_)
              repeat ((intro _u; clear _u); first | with_reducible first | refine cT ?_ | refine cF ?_ | refine cA ?_ | refine cB ?_ | refine aLn ?_ | refine cK ?_ | refine aS8 ?_ | refine wI ?_ | refine nD ?_ | refine aX rfl ?_)
              intro _u; clear _u
              refine cM false [1] (rtake_c h.n66 B r ok.m ok.s ok.made m) ?_
              repeat ((intro _u; clear _u); first | refine eK ?_ | refine eP ?_)
              repeat ((intro _u; clear _u); first | with_reducible first | refine cT ?_ | refine cF ?_ | refine cA ?_ | refine cB ?_ | refine aLn ?_ | refine cK ?_ | refine aS8 ?_ | refine wI ?_ | refine nD ?_ | refine aX rfl ?_)
              intro _u; clear _u
              refine ICall.pure h.n47.o47.hb (eq8_c h.n47 (r.take m).1 (r.take m).1) rfl ?_
              have n1 := take_c h.n59 noRd m
              rw [noRd_take] at n1
              repeat ((intro _u; clear _u); first | with_reducible first | refine cT ?_ | refine cF ?_ | refine cA ?_ | refine cB ?_ | refine aLn ?_ | refine cK ?_ | refine aS8 ?_ | refine wI ?_ | refine nD ?_ | refine aX rfl ?_)
              intro _u; clear _u
              refine acnd_f (by simp) ?_
              repeat ((intro _u; clear _u); first | with_reducible first | refine cT ?_ | refine cF ?_ | refine cA ?_ | refine cB ?_ | refine aLn ?_ | refine cK ?_ | refine aS8 ?_ | refine wI ?_ | refine nD ?_ | refine aX rfl ?_)
              intro _u; clear _u
              refine cM false [2] (n1) ?_
              repeat ((intro _u; clear _u); first | refine eK ?_ | refine eP ?_)
              repeat ((intro _u; clear _u); first | with_reducible first | refine cT ?_ | refine cF ?_ | refine cA ?_ | refine cB ?_ | refine aLn ?_ | refine cK ?_ | refine aS8 ?_ | refine wI ?_ | refine nD ?_ | refine aX rfl ?_)
              intro _u; clear _u
              refine acnd_f (by decide) ?_
              have ok2 := ok.take m
              generalize (r.take m).2 = r2 at ok2 ⊢
              repeat ((intro _u; clear _u); first | with_reducible first | refine cT ?_ | refine cF ?_ | refine cA ?_ | refine cB ?_ | refine aLn ?_ | refine cK ?_ | refine aS8 ?_ | refine wI ?_ | refine nD ?_ | refine aX rfl ?_)
              intro _u; clear _u
              refine cM false [0] (left_c h.n68 r2) ?_
              repeat ((intro _u; clear _u); first | refine eK ?_ | refine eP ?_)
              repeat ((intro _u; clear _u); first | with_reducible first | refine cT ?_ | refine cF ?_ | refine cA ?_ | refine cB ?_ | refine aLn ?_ | refine cK ?_ | refine aS8 ?_ | refine wI ?_ | refine nD ?_ | refine aX rfl ?_)
              intro _u; clear _u
              refine cM false [1] (rleft_c h.n78 B r2 ok2) ?_
              repeat ((intro _u; clear _u); first | refine eK ?_ | refine eP ?_)
              repeat ((intro _u; clear _u); first | with_reducible first | refine cT ?_ | refine cF ?_ | refine cA ?_ | refine cB ?_ | refine aLn ?_ | refine cK ?_ | refine aS8 ?_ | refine wI ?_ | refine nD ?_ | refine aX rfl ?_)
              intro _u; clear _u
              refine acnd_f (by simp) ?_
              repeat ((intro _u; clear _u); first | with_reducible first | refine cT ?_ | refine cF ?_ | refine cA ?_ | refine cB ?_ | refine aLn ?_ | refine cK ?_ | refine aS8 ?_ | refine wI ?_ | refine nD ?_ | refine aX rfl ?_)
              intro _u; clear _u
              refine cM false [0] (err_c h.n65 r2) ?_
              repeat ((intro _u; clear _u); first | refine eK ?_ | refine eP ?_)
              repeat ((intro _u; clear _u); first | with_reducible first | refine cT ?_ | refine cF ?_ | refine cA ?_ | refine cB ?_ | refine aLn ?_ | refine cK ?_ | refine aS8 ?_ | refine wI ?_ | refine nD ?_ | refine aX rfl ?_)
              intro _u; clear _u
              refine acnd_f (by (simp [Rd.err, ok2.made])) ?_
              repeat ((intro _u; clear _u); first | with_reducible first | refine cT ?_ | refine cF ?_ | refine cA ?_ | refine cB ?_ | refine aLn ?_ | refine cK ?_ | refine aS8 ?_ | refine wI ?_ | refine nD ?_ | refine aX rfl ?_)
              intro _u; clear _u
              refine cM false [0] (end_c h.n60 r2) ?_
              repeat ((intro _u; clear _u); first | refine eK ?_ | refine eP ?_)
              repeat ((intro _u; clear _u); first | with_reducible first | refine cT ?_ | refine cF ?_ | refine cA ?_ | refine cB ?_ | refine aLn ?_ | refine cK ?_ | refine aS8 ?_ | refine wI ?_ | refine nD ?_ | refine aX rfl ?_)
              intro _u; clear _u
              refine cM false [1] (rend_c h.n69 B r2 ok2) ?_
              repeat ((intro _u; clear _u); first | refine eK ?_ | refine eP ?_)
              repeat ((intro _u; clear _u); first | with_reducible first | refine cT ?_ | refine cF ?_ | refine cA ?_ | refine cB ?_ | refine aLn ?_ | refine cK ?_ | refine aS8 ?_ | refine wI ?_ | refine nD ?_ | refine aX rfl ?_)
              intro _u; clear _u
              refine acnd_f (by simp) ?_
              repeat ((intro _u; clear _u); first | with_reducible first | refine cT ?_ | refine cF ?_ | refine cA ?_ | refine cB ?_ | refine aLn ?_ | refine cK ?_ | refine aS8 ?_ | refine wI ?_ | refine nD ?_ | refine aX rfl ?_)
              intro _u; clear _u
              refine nXa ((i + 1, r2)) ?_ ?_
              · exact ⟨by simp; omega, ok2⟩
              · simp; omega
        · repeat ((intro _u; clear _u); first | with_reducible first | refine cT ?_ | refine cF ?_ | refine cA ?_ | refine cB ?_ | refine aLn ?_ | refine cK ?_ | refine aS8 ?_ | refine wI ?_ | refine nD ?_ | refine aX rfl ?_)
          intro _u; clear _u
          refine cM false [2] (err_c h.n65 noRd) ?_
          repeat ((intro _u; clear _u); first | refine eK ?_ | refine eP ?_)
          repeat ((intro _u; clear _u); first | with_reducible first | refine cT ?_ | refine cF ?_ | refine cA ?_ | refine cB ?_ | refine aLn ?_ | refine cK ?_ | refine aS8 ?_ | refine wI ?_ | refine nD ?_ | refine aX rfl ?_)
          intro _u; clear _u
          refine acnd_t (by decide) ?_
          repeat ((intro _u; clear _u); first | with_reducible first | refine cT ?_ | refine cF ?_ | refine cA ?_ | refine cB ?_ | refine aLn ?_ | refine cK ?_ | refine aS8 ?_ | refine wI ?_ | refine nD ?_ | refine aX rfl ?_)
          intro _u; clear _u
          refine cM false [2] (end_c h.n60 noRd) ?_
          repeat ((intro _u; clear _u); first | refine eK ?_ | refine eP ?_)
          repeat ((intro _u; clear _u); first | with_reducible first | refine cT ?_ | refine cF ?_ | refine cA ?_ | refine cB ?_ | refine aLn ?_ | refine cK ?_ | refine aS8 ?_ | refine wI ?_ | refine nD ?_ | refine aX rfl ?_)
          intro _u; clear _u
          refine acnd_t (by decide) ?_
          repeat ((intro _u; clear _u); first | with_reducible first | refine cT ?_ | refine cF ?_ | refine cA ?_ | refine cB ?_ | refine aLn ?_ | refine cK ?_ | refine aS8 ?_ | refine wI ?_ | refine nD ?_ | refine aX rfl ?_)
          intro _u; clear _u
          refine cM false [2] (left_c h.n68 noRd) ?_
          repeat ((intro _u; clear _u); first | refine eK ?_ | refine eP ?_)
          repeat ((intro _u; clear _u); first | with_reducible first | refine cT ?_ | refine cF ?_ | refine cA ?_ | refine cB ?_ | refine aLn ?_ | refine cK ?_ | refine aS8 ?_ | refine wI ?_ | refine nD ?_ | refine aX rfl ?_)
          intro _u; clear _u
          refine acnd_t (by decide) ?_
          repeat ((intro _u; clear _u); first | with_reducible first | refine cT ?_ | refine cF ?_ | refine cA ?_ | refine cB ?_ | refine aLn ?_ | refine cK ?_ | refine aS8 ?_ | refine wI ?_ | refine nD ?_ | refine aX rfl ?_)
          intro _u; clear _u
          refine ICall.pure h.n65.o65.hb (err_n h.n65) rfl ?_
          repeat ((intro _u; clear _u); first | with_reducible first | refine cT ?_ | refine cF ?_ | refine cA ?_ | refine cB ?_ | refine aLn ?_ | refine cK ?_ | refine aS8 ?_ | refine wI ?_ | refine nD ?_ | refine aX rfl ?_)
          intro _u; clear _u
          refine acnd_t (by decide) ?_
          repeat ((intro _u; clear _u); first | with_reducible first | refine cT ?_ | refine cF ?_ | refine cA ?_ | refine cB ?_ | refine aLn ?_ | refine cK ?_ | refine aS8 ?_ | refine wI ?_ | refine nD ?_ | refine aX rfl ?_)
          intro _u; clear _u
          refine ICall.pure h.n57.o57.hb (num_n h.n57) rfl ?_
          repeat ((intro _u; clear _u); first | with_reducible first | refine cT ?_ | refine cF ?_ | refine cA ?_ | refine cB ?_ | refine aLn ?_ | refine cK ?_ | refine aS8 ?_ | refine wI ?_ | refine nD ?_ | refine aX rfl ?_)
          intro _u; clear _u
          refine acnd_t (by decide) ?_
          repeat ((intro _u; clear _u); first | with_reducible first | refine cT ?_ | refine cF ?_ | refine cA ?_ | refine cB ?_ | refine aLn ?_ | refine cK ?_ | refine aS8 ?_ | refine wI ?_ | refine nD ?_ | refine aX rfl ?_)
          intro _u; clear _u
          refine ICall.pure h.n73.o73.hb (works11_c h.n73) rfl ?_
          repeat ((intro _u; clear _u); first | with_reducible first | refine cT ?_ | refine cF ?_ | refine cA ?_ | refine cB ?_ | refine aLn ?_ | refine cK ?_ | refine aS8 ?_ | refine wI ?_ | refine nD ?_ | refine aX rfl ?_)
          intro _u; clear _u
          exact rT
      · repeat ((intro _u; clear _u); first | with_reducible first | refine cT ?_ | refine cF ?_ | refine cA ?_ | refine cB ?_ | refine aLn ?_ | refine cK ?_ | refine aS8 ?_ | refine wI ?_ | refine nD ?_ | refine aX rfl ?_)
        intro _u; clear _u
        refine cM false [2] (err_c h.n65 noRd) ?_
        repeat ((intro _u; clear _u); first | refine eK ?_ | refine eP ?_)
        repeat ((intro _u; clear _u); first | with_reducible first | refine cT ?_ | refine cF ?_ | refine cA ?_ | refine cB ?_ | refine aLn ?_ | refine cK ?_ | refine aS8 ?_ | refine wI ?_ | refine nD ?_ | refine aX rfl ?_)
        intro _u; clear _u
        refine acnd_t (by decide) ?_
        repeat ((intro _u; clear _u); first | with_reducible first | refine cT ?_ | refine cF ?_ | refine cA ?_ | refine cB ?_ | refine aLn ?_ | refine cK ?_ | refine aS8 ?_ | refine wI ?_ | refine nD ?_ | refine aX rfl ?_)
        intro _u; clear _u
        refine cM false [2] (end_c h.n60 noRd) ?_
        repeat ((intro _u; clear _u); first | refine eK ?_ | refine eP ?_)
        repeat ((intro _u; clear _u); first | with_reducible first | refine cT ?_ | refine cF ?_ | refine cA ?_ | refine cB ?_ | refine aLn ?_ | refine cK ?_ | refine aS8 ?_ | refine wI ?_ | refine nD ?_ | refine aX rfl ?_)
        intro _u; clear _u
        refine acnd_t (by decide) ?_
        repeat ((intro _u; clear _u); first | with_reducible first | refine cT ?_ | refine cF ?_ | refine cA ?_ | refine cB ?_ | refine aLn ?_ | refine cK ?_ | refine aS8 ?_ | refine wI ?_ | refine nD ?_ | refine aX rfl ?_)
        intro _u; clear _u
        refine cM false [2] (left_c h.n68 noRd) ?_
        repeat ((intro _u; clear _u); first | refine eK ?_ | refine eP ?_)
        repeat ((intro _u; clear _u); first | with_reducible first | refine cT ?_ | refine cF ?_ | refine cA ?_ | refine cB ?_ | refine aLn ?_ | refine cK ?_ | refine aS8 ?_ | refine wI ?_ | refine nD ?_ | refine aX rfl ?_)
        intro _u; clear _u
        refine acnd_t (by decide) ?_
        repeat ((intro _u; clear _u); first | with_reducible first | refine cT ?_ | refine cF ?_ | refine cA ?_ | refine cB ?_ | refine aLn ?_ | refine cK ?_ | refine aS8 ?_ | refine wI ?_ | refine nD ?_ | refine aX rfl ?_)
        intro _u; clear _u
        refine ICall.pure h.n65.o65.hb (err_n h.n65) rfl ?_
        repeat ((intro _u; clear _u); first | with_reducible first | refine cT ?_ | refine cF ?_ | refine cA ?_ | refine cB ?_ | refine aLn ?_ | refine cK ?_ | refine aS8 ?_ | refine wI ?_ | refine nD ?_ | refine aX rfl ?_)
        intro _u; clear _u
        refine acnd_t (by decide) ?_
        repeat ((intro _u; clear _u); first | with_reducible first | refine cT ?_ | refine cF ?_ | refine cA ?_ | refine cB ?_ | refine aLn ?_ | refine cK ?_ | refine aS8 ?_ | refine wI ?_ | refine nD ?_ | refine aX rfl ?_)
        intro _u; clear _u
        refine ICall.pure h.n57.o57.hb (num_n h.n57) rfl ?_
        repeat ((intro _u; clear _u); first | with_reducible first | refine cT ?_ | refine cF ?_ | refine cA ?_ | refine cB ?_ | refine aLn ?_ | refine cK ?_ | refine aS8 ?_ | refine wI ?_ | refine nD ?_ | refine aX rfl ?_)
        intro _u; clear _u
        refine acnd_t (by decide) ?_
        repeat ((intro _u; clear _u); first | with_reducible first | refine cT ?_ | refine cF ?_ | refine cA ?_ | refine cB ?_ | refine aLn ?_ | refine cK ?_ | refine aS8 ?_ | refine wI ?_ | refine nD ?_ | refine aX rfl ?_)
        intro _u; clear _u
        refine ICall.pure h.n73.o73.hb (works11_c h.n73) rfl ?_
        repeat ((intro _u; clear _u); first | with_reducible first | refine cT ?_ | refine cF ?_ | refine cA ?_ | refine cB ?_ | refine aLn ?_ | refine cK ?_ | refine aS8 ?_ | refine wI ?_ | refine nD ?_ | refine aX rfl ?_)
        intro _u; clear _u
        exact rT
end Go.UM
