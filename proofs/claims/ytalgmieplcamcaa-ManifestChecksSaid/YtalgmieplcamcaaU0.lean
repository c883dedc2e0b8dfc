/- Of the reckoning machine, and what is proved with it: texts joined by program. -/
import Derived.Test.YtalgmieplcamcaaK1
set_option linter.all false

/- The resolved code of package lib, function by function; numbers are those of the register, the same for all programs. -/

namespace Go.UM
open Go.AM
/-- slices.Clone[[]byte,byte][[]uint8,uint8] -/
def c62 : IFn := { np := 1, rs := [.t 2], body :=
 (.seq
  (.ops [⟨some 2, none, .mv (.k (.nils))⟩])
  (.seq
   (.seq
    (.ops [⟨some 3, none, .mv (.t 0)⟩,
      ⟨some 4, none, .isnS false (.t 3)⟩])
    (.cond (.t 4)
     (.seq
      (.ops [⟨some 2, none, .mv (.k (.nils))⟩])
      .ret)
     .skip))
   (.keep [0]
    (.seq
     (.ops [⟨some 5, none, .bslice 4 1 0 [.int .u8 0] []⟩,
       ⟨some 6, none, .mv (.t 0)⟩,
       ⟨some 7, none, .app 4 1 (.t 5) (.t 6)⟩,
       ⟨some 2, none, .mv (.t 7)⟩])
     .ret)))) }
structure N62 (R : Env) : Prop where
  o62 : R.Fn 62 c62
/-- bytes.Equal -/
def c47 : IFn := { np := 2, rs := [.t 4], body :=
 (.seq
  (.ops [⟨some 4, none, .mv (.k (.bool false))⟩])
  (.seq
   (.ops [⟨some 5, none, .mv (.t 0)⟩,
     ⟨some 6, none, .b2s (.t 5)⟩,
     ⟨some 7, none, .mv (.t 1)⟩,
     ⟨some 8, none, .b2s (.t 7)⟩,
     ⟨some 9, none, .bst .eql (.t 6) (.t 8)⟩,
     ⟨some 4, none, .mv (.t 9)⟩])
   (.keep [4]
    .ret))) }
structure N47 (R : Env) : Prop where
  o47 : R.Fn 47 c47
end Go.UM

/- The resolved code of package codec, function by function; numbers are those of the register, the same for all programs. -/

namespace Go.UM
open Go.AM
/-- umbra.codec.Put -/
def c54 : IFn := { np := 3, rs := [.t 6, .t 7], body :=
 (.seq
  (.ops [⟨some 6, none, .mv (.k (.nils))⟩,
    ⟨some 7, none, .mv (.k (.int .i64 0))⟩])
  (.seq
   (.seq
    (.ops [⟨some 12, none, .mv (.t 1)⟩,
      ⟨some 13, none, .bin .lss (.t 12) (.k (.int .i64 1))⟩,
      ⟨some 14, none, .mv (.t 13)⟩,
      ⟨some 15, some (14, false), .mv (.t 1)⟩,
      ⟨some 16, some (14, false), .bin .gtr (.t 15) (.k (.int .i64 8))⟩,
      ⟨some 17, none, .pick (.t 14) (.k (.bool true)) (.t 16)⟩])
    (.keep [0, 1, 2, 17]
     (.cond (.t 17)
      (.seq
       (.ops [⟨some 6, none, .mv (.k (.nils))⟩,
         ⟨some 7, none, .mv (.k (.int .i64 2))⟩])
       .ret)
      .skip)))
   (.keep [0, 1, 2]
    (.seq
     (.ops [⟨some 18, none, .mv (.t 0)⟩,
       ⟨some 19, none, .call 62 [.t 18]⟩,
       ⟨some 8, none, .mv (.t 19)⟩])
     (.seq
      (.seq
       (.ops [⟨some 20, none, .mv (.t 2)⟩,
         ⟨some 21, none, .lenS (.t 20)⟩,
         ⟨some 22, none, .mv (.k (.int .i64 0))⟩])
       (.keep [1, 8, 20, 21, 22]
        (.block 0
         (.loop
          (.seq
           (.ops [⟨some 23, none, .bin .lss (.t 22) (.t 21)⟩])
           (.seq
            (.cond (.t 23)
             .skip
             (.exit 0))
            (.keep [1, 8, 20, 21, 22]
             (.seq
              (.block 1
               (.seq
                (.ops [⟨some 24, none, .idxS 1 (.t 20) (.t 22)⟩,
                  ⟨some 25, none, .load false 1 (.t 24)⟩,
                  ⟨some 10, none, .mv (.t 25)⟩])
                (.seq
                 (.seq
                  (.ops [⟨some 26, none, .mv (.t 1)⟩,
                    ⟨some 27, none, .bin .lss (.t 26) (.k (.int .i64 8))⟩,
                    ⟨some 28, none, .mv (.t 27)⟩,
                    ⟨some 29, some (28, true), .mv (.t 10)⟩,
                    ⟨some 30, some (28, true), .mv (.t 1)⟩,
                    ⟨some 31, some (28, true), .bin .mul (.k (.int .i64 8)) (.t 30)⟩,
                    ⟨some 32, some (28, true), .bin .shr (.t 29) (.t 31)⟩,
                    ⟨some 33, some (28, true), .bin .gtr (.t 32) (.k (.int .u64 0))⟩,
                    ⟨some 34, none, .pick (.t 28) (.t 33) (.k (.bool false))⟩])
                  (.keep [1, 8, 10, 20, 21, 22, 34]
                   (.cond (.t 34)
                    (.seq
                     (.ops [⟨some 6, none, .mv (.k (.nils))⟩,
                       ⟨some 7, none, .mv (.k (.int .i64 3))⟩])
                     .ret)
                    .skip)))
                 (.keep [1, 8, 10, 20, 21, 22]
                  (.seq
                   (.ops [⟨some 35, none, .mv (.t 1)⟩,
                     ⟨some 36, none, .mv (.k (.int .i64 0))⟩])
                   (.keep [1, 8, 10, 20, 21, 22, 35, 36]
                    (.block 2
                     (.loop
                      (.seq
                       (.ops [⟨some 37, none, .bin .lss (.t 36) (.t 35)⟩])
                       (.seq
                        (.cond (.t 37)
                         .skip
                         (.exit 2))
                        (.keep [1, 8, 10, 20, 21, 22, 35, 36]
                         (.seq
                          (.block 3
                           (.seq
                            (.ops [⟨some 38, none, .mv (.t 36)⟩,
                              ⟨some 11, none, .mv (.t 38)⟩])
                            (.ops [⟨some 39, none, .mv (.t 8)⟩,
                              ⟨some 40, none, .mv (.t 10)⟩,
                              ⟨some 41, none, .mv (.t 11)⟩,
                              ⟨some 42, none, .bin .mul (.k (.int .i64 8)) (.t 41)⟩,
                              ⟨some 43, none, .bin .shr (.t 40) (.t 42)⟩,
                              ⟨some 44, none, .conv .u8 (.t 43)⟩,
                              ⟨some 45, none, .bslice 4 1 1 [.int .u8 0] [(0, .t 44)]⟩,
                              ⟨some 46, none, .app 4 1 (.t 39) (.t 45)⟩,
                              ⟨some 8, none, .mv (.t 46)⟩])))
                          (.keep [1, 8, 10, 20, 21, 22, 35, 36]
                           (.ops [⟨some 47, none, .bin .add (.t 36) (.k (.int .i64 1))⟩,
                             ⟨some 36, none, .mv (.t 47)⟩]))))))))))))))
              (.keep [1, 8, 20, 21, 22]
               (.ops [⟨some 48, none, .bin .add (.t 22) (.k (.int .i64 1))⟩,
                 ⟨some 22, none, .mv (.t 48)⟩]))))))))))
      (.keep [8]
       (.seq
        (.ops [⟨some 49, none, .mv (.t 8)⟩,
          ⟨some 6, none, .mv (.t 49)⟩,
          ⟨some 7, none, .mv (.k (.int .i64 0))⟩])
        .ret))))))) }
structure N54 (R : Env) : Prop where
  o54 : R.Fn 54 c54
  n62 : N62 R
/-- umbra.codec.New -/
def c56 : IFn := { np := 1, rs := [.t 2], body :=
 (.seq
  (.ops [⟨some 2, none, .mv (.k (.nilp))⟩])
  (.seq
   (.ops [⟨some 3, none, .mv (.t 0)⟩,
     ⟨some 4, none, .call 62 [.t 3]⟩,
     ⟨some 5, none, .build [.nils, .int .i64 0, .bool false] [(0, 1, .t 4), (2, 1, .k (.bool true))]⟩,
     ⟨some 6, none, .box 9 (.t 5)⟩,
     ⟨some 2, none, .mv (.t 6)⟩])
   (.keep [2]
    .ret))) }
structure N56 (R : Env) : Prop where
  o56 : R.Fn 56 c56
  n62 : N62 R
/-- (*umbra.codec.Reader).none -/
def c64 : IFn := { np := 1, rs := [.t 2], body :=
 (.seq
  (.ops [⟨some 2, none, .mv (.k (.bool false))⟩])
  (.seq
   (.ops [⟨some 3, none, .mv (.t 0)⟩,
     ⟨some 4, none, .isn false (.t 3)⟩,
     ⟨some 5, none, .mv (.t 4)⟩,
     ⟨some 6, some (5, false), .mv (.t 0)⟩,
     ⟨some 7, some (5, false), .nilck (.t 6)⟩,
     ⟨some 8, some (5, false), .fldA 2 (.t 7)⟩,
     ⟨some 9, some (5, false), .load false 1 (.t 8)⟩,
     ⟨some 10, some (5, false), .un .not (.t 9)⟩,
     ⟨some 11, none, .pick (.t 5) (.k (.bool true)) (.t 10)⟩,
     ⟨some 2, none, .mv (.t 11)⟩])
   (.keep [2]
    .ret))) }
structure N64 (R : Env) : Prop where
  o64 : R.Fn 64 c64
/-- (*umbra.codec.Reader).Take -/
def c59 : IFn := { np := 2, rs := [.t 4], body :=
 (.seq
  (.ops [⟨some 4, none, .mv (.k (.nils))⟩])
  (.seq
   (.block 0
    (.seq
     (.ops [⟨some 7, none, .mv (.t 0)⟩,
       ⟨some 8, none, .call 64 [.t 7]⟩,
       ⟨some 9, none, .mv (.t 8)⟩,
       ⟨some 10, some (9, false), .mv (.t 0)⟩,
       ⟨some 11, some (9, false), .nilck (.t 10)⟩,
       ⟨some 12, some (9, false), .fldA 1 (.t 11)⟩,
       ⟨some 13, some (9, false), .load false 1 (.t 12)⟩,
       ⟨some 14, some (9, false), .bin .neq (.t 13) (.k (.int .i64 0))⟩,
       ⟨some 15, none, .pick (.t 9) (.k (.bool true)) (.t 14)⟩,
       ⟨some 6, none, .mv (.t 15)⟩])
     (.keep [0, 1, 6]
      (.cond (.t 6)
       (.seq
        (.ops [⟨some 4, none, .mv (.k (.nils))⟩])
        .ret)
       (.seq
        (.ops [⟨some 17, none, .mv (.t 1)⟩,
          ⟨some 18, none, .bin .lss (.t 17) (.k (.int .i64 0))⟩,
          ⟨some 16, none, .mv (.t 18)⟩])
        (.cond (.t 16)
         (.seq
          (.ops [⟨some 19, none, .mv (.t 0)⟩,
            ⟨some 20, none, .nilck (.t 19)⟩,
            ⟨some 21, none, .fldA 1 (.t 20)⟩,
            ⟨none, none, .store 1 (.t 21) (.k (.int .i64 2))⟩])
          (.seq
           (.ops [⟨some 4, none, .mv (.k (.nils))⟩])
           .ret))
         (.seq
          (.ops [⟨some 23, none, .mv (.t 1)⟩,
            ⟨some 24, none, .mv (.t 0)⟩,
            ⟨some 25, none, .nilck (.t 24)⟩,
            ⟨some 26, none, .fldA 0 (.t 25)⟩,
            ⟨some 27, none, .load false 1 (.t 26)⟩,
            ⟨some 28, none, .lenS (.t 27)⟩,
            ⟨some 29, none, .bin .gtr (.t 23) (.t 28)⟩,
            ⟨some 22, none, .mv (.t 29)⟩])
          (.keep [0, 1, 22]
           (.cond (.t 22)
            (.seq
             (.ops [⟨some 30, none, .mv (.t 0)⟩,
               ⟨some 31, none, .nilck (.t 30)⟩,
               ⟨some 32, none, .fldA 1 (.t 31)⟩,
               ⟨none, none, .store 1 (.t 32) (.k (.int .i64 4))⟩])
             (.seq
              (.ops [⟨some 4, none, .mv (.k (.nils))⟩])
              .ret))
            .skip)))))))))
   (.keep [0, 1]
    (.seq
     (.ops [⟨some 33, none, .mv (.t 0)⟩,
       ⟨some 34, none, .nilck (.t 33)⟩,
       ⟨some 35, none, .fldA 0 (.t 34)⟩,
       ⟨some 36, none, .load false 1 (.t 35)⟩,
       ⟨some 37, none, .mv (.t 1)⟩,
       ⟨some 38, none, .mv (.t 1)⟩,
       ⟨some 39, none, .slcS 4 1 (.t 36) none (some (.t 37)) (some (.t 38))⟩,
       ⟨some 5, none, .mv (.t 39)⟩])
     (.keep [0, 1, 5]
      (.seq
       (.ops [⟨some 40, none, .mv (.t 0)⟩,
         ⟨some 41, none, .mv (.t 0)⟩,
         ⟨some 42, none, .nilck (.t 41)⟩,
         ⟨some 43, none, .fldA 0 (.t 42)⟩,
         ⟨some 44, none, .load false 1 (.t 43)⟩,
         ⟨some 45, none, .mv (.t 1)⟩,
         ⟨some 46, none, .slcS 4 1 (.t 44) (some (.t 45)) none none⟩,
         ⟨some 47, none, .nilck (.t 40)⟩,
         ⟨some 48, none, .fldA 0 (.t 47)⟩,
         ⟨none, none, .store 1 (.t 48) (.t 46)⟩])
       (.keep [5]
        (.seq
         (.ops [⟨some 49, none, .mv (.t 5)⟩,
           ⟨some 4, none, .mv (.t 49)⟩])
         .ret)))))))) }
structure N59 (R : Env) : Prop where
  o59 : R.Fn 59 c59
  n64 : N64 R
/-- (*umbra.codec.Reader).Num -/
def c57 : IFn := { np := 2, rs := [.t 4], body :=
 (.seq
  (.ops [⟨some 4, none, .mv (.k (.int .u64 0))⟩])
  (.seq
   (.seq
    (.ops [⟨some 8, none, .mv (.t 1)⟩,
      ⟨some 9, none, .bin .lss (.t 8) (.k (.int .i64 1))⟩,
      ⟨some 10, none, .mv (.t 9)⟩,
      ⟨some 11, some (10, false), .mv (.t 1)⟩,
      ⟨some 12, some (10, false), .bin .gtr (.t 11) (.k (.int .i64 8))⟩,
      ⟨some 13, none, .pick (.t 10) (.k (.bool true)) (.t 12)⟩])
    (.keep [0, 1, 13]
     (.cond (.t 13)
      (.ops [⟨some 1, none, .mv (.k (.int .i64 (-1)))⟩])
      .skip)))
   (.keep [0, 1]
    (.seq
     (.ops [⟨some 5, none, .mv (.k (.int .u64 0))⟩])
     (.seq
      (.seq
       (.ops [⟨some 14, none, .mv (.t 0)⟩,
         ⟨some 15, none, .mv (.t 1)⟩,
         ⟨some 16, none, .call 59 [.t 14, .t 15]⟩,
         ⟨some 17, none, .lenS (.t 16)⟩,
         ⟨some 18, none, .mv (.k (.int .i64 0))⟩])
       (.keep [5, 16, 17, 18]
        (.block 0
         (.loop
          (.seq
           (.ops [⟨some 19, none, .bin .lss (.t 18) (.t 17)⟩])
           (.seq
            (.cond (.t 19)
             .skip
             (.exit 0))
            (.keep [5, 16, 17, 18]
             (.seq
              (.block 1
               (.seq
                (.ops [⟨some 20, none, .mv (.t 18)⟩,
                  ⟨some 21, none, .idxS 1 (.t 16) (.t 18)⟩,
                  ⟨some 22, none, .load false 1 (.t 21)⟩,
                  ⟨some 6, none, .mv (.t 20)⟩,
                  ⟨some 7, none, .mv (.t 22)⟩])
                (.keep [5, 6, 7, 16, 17, 18]
                 (.ops [⟨some 23, none, .mv (.t 5)⟩,
                   ⟨some 24, none, .mv (.t 7)⟩,
                   ⟨some 25, none, .conv .u64 (.t 24)⟩,
                   ⟨some 26, none, .mv (.t 6)⟩,
                   ⟨some 27, none, .bin .mul (.k (.int .i64 8)) (.t 26)⟩,
                   ⟨some 28, none, .bin .shl (.t 25) (.t 27)⟩,
                   ⟨some 29, none, .bin .or (.t 23) (.t 28)⟩,
                   ⟨some 5, none, .mv (.t 29)⟩]))))
              (.keep [5, 16, 17, 18]
               (.ops [⟨some 30, none, .bin .add (.t 18) (.k (.int .i64 1))⟩,
                 ⟨some 18, none, .mv (.t 30)⟩]))))))))))
      (.keep [5]
       (.seq
        (.ops [⟨some 31, none, .mv (.t 5)⟩,
          ⟨some 4, none, .mv (.t 31)⟩])
        .ret))))))) }
structure N57 (R : Env) : Prop where
  o57 : R.Fn 57 c57
  n59 : N59 R
/-- (*umbra.codec.Reader).Err -/
def c65 : IFn := { np := 1, rs := [.t 2], body :=
 (.seq
  (.ops [⟨some 2, none, .mv (.k (.int .i64 0))⟩])
  (.seq
   (.seq
    (.ops [⟨some 3, none, .mv (.t 0)⟩,
      ⟨some 4, none, .call 64 [.t 3]⟩])
    (.cond (.t 4)
     (.seq
      (.ops [⟨some 2, none, .mv (.k (.int .i64 1))⟩])
      .ret)
     .skip))
   (.keep [0]
    (.seq
     (.ops [⟨some 5, none, .mv (.t 0)⟩,
       ⟨some 6, none, .nilck (.t 5)⟩,
       ⟨some 7, none, .fldA 1 (.t 6)⟩,
       ⟨some 8, none, .load false 1 (.t 7)⟩,
       ⟨some 2, none, .mv (.t 8)⟩])
     (.keep [2]
      .ret))))) }
structure N65 (R : Env) : Prop where
  o65 : R.Fn 65 c65
  n64 : N64 R
/-- (*umbra.codec.Reader).End -/
def c60 : IFn := { np := 1, rs := [.t 2], body :=
 (.seq
  (.ops [⟨some 2, none, .mv (.k (.int .i64 0))⟩])
  (.seq
   (.seq
    (.ops [⟨some 4, none, .mv (.t 0)⟩,
      ⟨some 5, none, .call 65 [.t 4]⟩,
      ⟨some 3, none, .mv (.t 5)⟩])
    (.seq
     (.ops [⟨some 6, none, .mv (.t 3)⟩,
       ⟨some 7, none, .bin .neq (.t 6) (.k (.int .i64 0))⟩])
     (.cond (.t 7)
      (.seq
       (.ops [⟨some 8, none, .mv (.t 3)⟩,
         ⟨some 2, none, .mv (.t 8)⟩])
       .ret)
      .skip)))
   (.keep [0]
    (.seq
     (.seq
      (.ops [⟨some 9, none, .mv (.t 0)⟩,
        ⟨some 10, none, .nilck (.t 9)⟩,
        ⟨some 11, none, .fldA 0 (.t 10)⟩,
        ⟨some 12, none, .load false 1 (.t 11)⟩,
        ⟨some 13, none, .lenS (.t 12)⟩,
        ⟨some 14, none, .bin .gtr (.t 13) (.k (.int .i64 0))⟩])
      (.keep [14]
       (.cond (.t 14)
        (.seq
         (.ops [⟨some 2, none, .mv (.k (.int .i64 5))⟩])
         .ret)
        .skip)))
     (.keep []
      (.seq
       (.ops [⟨some 2, none, .mv (.k (.int .i64 0))⟩])
       .ret)))))) }
structure N60 (R : Env) : Prop where
  o60 : R.Fn 60 c60
  n65 : N65 R
end Go.UM

/- The resolved code of package manifest, function by function; numbers are those of the register, the same for all programs. -/

namespace Go.UM
open Go.AM
/-- umbra.manifest.Cap -/
def c37 : IFn := { np := 1, rs := [.t 2], body :=
 (.seq
  (.ops [⟨some 2, none, .mv (.k (.int .i64 0))⟩])
  (.seq
   (.ops [⟨some 4, none, .build [.int .i64 0, .int .i64 0, .int .i64 0, .int .i64 0, .int .i64 0] [(1, 1, .k (.int .i64 2048)), (2, 1, .k (.int .i64 1024)), (3, 1, .k (.int .i64 64)), (4, 1, .k (.int .i64 64))]⟩,
     ⟨some 3, none, .alloc 5 [.int .i64 0, .int .i64 0, .int .i64 0, .int .i64 0, .int .i64 0]⟩,
     ⟨none, none, .store 5 (.t 3) (.t 4)⟩])
   (.seq
    (.seq
     (.ops [⟨some 5, none, .mv (.t 0)⟩,
       ⟨some 6, none, .bin .lss (.t 5) (.k (.int .i64 0))⟩,
       ⟨some 7, none, .mv (.t 6)⟩,
       ⟨some 8, some (7, false), .mv (.t 0)⟩,
       ⟨some 9, some (7, false), .bin .geq (.t 8) (.k (.int .i64 5))⟩,
       ⟨some 10, none, .pick (.t 7) (.k (.bool true)) (.t 9)⟩])
     (.keep [0, 3, 10]
      (.cond (.t 10)
       (.seq
        (.ops [⟨some 2, none, .mv (.k (.int .i64 0))⟩])
        .ret)
       .skip)))
    (.keep [0, 3]
     (.seq
      (.ops [⟨some 11, none, .mv (.t 0)⟩,
        ⟨some 12, none, .idxA 5 1 (.t 3) (.t 11)⟩,
        ⟨some 13, none, .load false 1 (.t 12)⟩,
        ⟨some 2, none, .mv (.t 13)⟩])
      .ret))))) }
structure N37 (R : Env) : Prop where
  o37 : R.Fn 37 c37
/-- umbra.manifest.Chunks -/
def c39 : IFn := { np := 1, rs := [.t 2], body :=
 (.seq
  (.ops [⟨some 2, none, .mv (.k (.int .i64 0))⟩])
  (.seq
   (.seq
    (.ops [⟨some 3, none, .mv (.t 0)⟩,
      ⟨some 4, none, .bin .lss (.t 3) (.k (.int .i64 1))⟩])
    (.cond (.t 4)
     (.seq
      (.ops [⟨some 2, none, .mv (.k (.int .i64 0))⟩])
      .ret)
     .skip))
   (.keep [0]
    (.seq
     (.ops [⟨some 5, none, .mv (.t 0)⟩,
       ⟨some 6, none, .bin .sub (.t 5) (.k (.int .i64 1))⟩,
       ⟨some 7, none, .bin .quo (.t 6) (.k (.int .i64 256))⟩,
       ⟨some 8, none, .bin .add (.t 7) (.k (.int .i64 1))⟩,
       ⟨some 2, none, .mv (.t 8)⟩])
     (.keep [2]
      .ret))))) }
structure N39 (R : Env) : Prop where
  o39 : R.Fn 39 c39
/-- umbra.manifest.Check -/
def c41 : IFn := { np := 1, rs := [.t 2], body :=
 (.seq
  (.ops [⟨some 1, none, .box 2 (.t 0)⟩,
    ⟨some 2, none, .mv (.k (.int .i64 0))⟩])
  (.seq
   (.ops [⟨some 6, none, .fldA 1 (.t 1)⟩,
     ⟨some 7, none, .load false 1 (.t 6)⟩,
     ⟨some 8, none, .call 37 [.t 7]⟩,
     ⟨some 3, none, .mv (.t 8)⟩])
   (.seq
    (.seq
     (.ops [⟨some 9, none, .mv (.t 3)⟩,
       ⟨some 10, none, .bin .eql (.t 9) (.k (.int .i64 0))⟩])
     (.cond (.t 10)
      (.seq
       (.ops [⟨some 2, none, .mv (.k (.int .i64 12))⟩])
       .ret)
      .skip))
    (.keep [1, 3]
     (.seq
      (.seq
       (.ops [⟨some 11, none, .fldA 3 (.t 1)⟩,
         ⟨some 12, none, .load true 8 (.t 11)⟩,
         ⟨some 13, none, .mv (.k (.int .i64 0))⟩])
       (.keep [1, 3, 12, 13]
        (.block 0
         (.loop
          (.seq
           (.ops [⟨some 14, none, .bin .lss (.t 13) (.k (.int .i64 8))⟩])
           (.seq
            (.cond (.t 14)
             .skip
             (.exit 0))
            (.keep [1, 3, 12, 13]
             (.seq
              (.block 1
               (.seq
                (.ops [⟨some 15, none, .idxV false 8 1 (.t 12) (.t 13)⟩,
                  ⟨some 5, none, .mv (.t 15)⟩])
                (.seq
                 (.ops [⟨some 16, none, .mv (.t 5)⟩,
                   ⟨some 17, none, .bin .gtr (.t 16) (.k (.int .u8 15))⟩])
                 (.cond (.t 17)
                  (.seq
                   (.ops [⟨some 2, none, .mv (.k (.int .i64 5))⟩])
                   .ret)
                  .skip))))
              (.keep [1, 3, 12, 13]
               (.ops [⟨some 18, none, .bin .add (.t 13) (.k (.int .i64 1))⟩,
                 ⟨some 13, none, .mv (.t 18)⟩]))))))))))
      (.keep [1, 3]
       (.seq
        (.block 2
         (.seq
          (.ops [⟨some 20, none, .fldA 11 (.t 1)⟩,
            ⟨some 21, none, .load false 1 (.t 20)⟩,
            ⟨some 22, none, .fldA 12 (.t 1)⟩,
            ⟨some 23, none, .load false 1 (.t 22)⟩,
            ⟨some 24, none, .bin .gtr (.t 21) (.t 23)⟩,
            ⟨some 25, none, .mv (.t 24)⟩,
            ⟨some 26, some (25, false), .fldA 13 (.t 1)⟩,
            ⟨some 27, some (25, false), .load false 1 (.t 26)⟩,
            ⟨some 28, some (25, false), .bin .lss (.t 27) (.k (.int .i64 1))⟩,
            ⟨some 29, none, .pick (.t 25) (.k (.bool true)) (.t 28)⟩,
            ⟨some 19, none, .mv (.t 29)⟩])
          (.keep [1, 3, 19]
           (.cond (.t 19)
            (.seq
             (.ops [⟨some 2, none, .mv (.k (.int .i64 5))⟩])
             .ret)
            (.seq
             (.ops [⟨some 31, none, .fldA 13 (.t 1)⟩,
               ⟨some 32, none, .load false 1 (.t 31)⟩,
               ⟨some 33, none, .mv (.t 3)⟩,
               ⟨some 34, none, .bin .gtr (.t 32) (.t 33)⟩,
               ⟨some 30, none, .mv (.t 34)⟩])
             (.keep [1, 30]
              (.cond (.t 30)
               (.seq
                (.ops [⟨some 2, none, .mv (.k (.int .i64 9))⟩])
                .ret)
               (.seq
                (.draw [0, 1, 0, 4, 12, 31, 63] [[1], [36], [1], [38], [39], [37, 40], [41]] [⟨some 36, none, .fldA 14 (.t 1)⟩,
                  ⟨some 37, none, .load false 1 (.t 36)⟩,
                  ⟨some 38, none, .fldA 13 (.t 1)⟩,
                  ⟨some 39, none, .load false 1 (.t 38)⟩,
                  ⟨some 40, none, .call 39 [.t 39]⟩,
                  ⟨some 41, none, .bin .neq (.t 37) (.t 40)⟩,
                  ⟨some 35, none, .mv (.t 41)⟩])
                (.keep [35]
                 (.cond (.t 35)
                  (.seq
                   (.ops [⟨some 2, none, .mv (.k (.int .i64 5))⟩])
                   .ret)
                  .skip))))))))))
        (.keep []
         (.seq
          (.ops [⟨some 2, none, .mv (.k (.int .i64 0))⟩])
          .ret))))))))) }
structure N41 (R : Env) : Prop where
  o41 : R.Fn 41 c41
  n37 : N37 R
  n39 : N39 R
/-- umbra.manifest.Length -/
def c52 : IFn := { np := 0, rs := [.t 0], body :=
 (.seq
  (.ops [⟨some 0, none, .mv (.k (.int .i64 0))⟩])
  (.seq
   (.ops [⟨some 0, none, .mv (.k (.int .i64 35))⟩])
   .ret)) }
structure N52 (R : Env) : Prop where
  o52 : R.Fn 52 c52
/-- umbra.manifest.Encode (NOT WHOLE: ['op .slcA']) -/
def c45 : IFn := { np := 1, rs := [.t 2, .t 3], body :=
 (.seq
  (.ops [⟨some 1, none, .box 2 (.t 0)⟩,
    ⟨some 2, none, .mv (.k (.nils))⟩,
    ⟨some 3, none, .mv (.k (.int .i64 0))⟩])
  (.seq
   (.seq
    (.ops [⟨some 7, none, .load true 15 (.t 1)⟩,
      ⟨some 8, none, .call 41 [.t 7]⟩,
      ⟨some 4, none, .mv (.t 8)⟩])
    (.seq
     (.ops [⟨some 9, none, .mv (.t 4)⟩,
       ⟨some 10, none, .bin .neq (.t 9) (.k (.int .i64 0))⟩])
     (.cond (.t 10)
      (.seq
       (.ops [⟨some 11, none, .mv (.t 4)⟩,
         ⟨some 2, none, .mv (.k (.nils))⟩,
         ⟨some 3, none, .mv (.t 11)⟩])
       .ret)
      .skip)))
   (.keep [1]
    (.seq
     (.ops [⟨some 13, none, .fldA 0 (.t 1)⟩,
       ⟨some 14, none, .load false 1 (.t 13)⟩,
       ⟨some 15, none, .bslice 6 1 1 [.int .u64 0] [(0, .t 14)]⟩,
       ⟨some 16, none, .call 54 [.k (.nils), .k (.int .i64 8), .t 15]⟩,
       ⟨some 12, none, .mv (.t 16)⟩,
       ⟨some 17, none, .ext (.t 12) 0⟩,
       ⟨some 18, none, .ext (.t 12) 1⟩,
       ⟨some 5, none, .mv (.t 17)⟩,
       ⟨some 6, none, .mv (.t 18)⟩])
     (.keep [1, 5]
      (.seq
       (.ops [⟨some 20, none, .mv (.t 5)⟩,
         ⟨some 21, none, .fldA 1 (.t 1)⟩,
         ⟨some 22, none, .load false 1 (.t 21)⟩,
         ⟨some 23, none, .conv .u64 (.t 22)⟩,
         ⟨some 24, none, .bslice 6 1 1 [.int .u64 0] [(0, .t 23)]⟩,
         ⟨some 25, none, .call 54 [.t 20, .k (.int .i64 1), .t 24]⟩,
         ⟨some 19, none, .mv (.t 25)⟩,
         ⟨some 26, none, .ext (.t 19) 0⟩,
         ⟨some 27, none, .ext (.t 19) 1⟩,
         ⟨some 5, none, .mv (.t 26)⟩])
       (.keep [1, 5]
        (.seq
         (.ops [⟨some 29, none, .mv (.t 5)⟩,
           ⟨some 30, none, .fldA 2 (.t 1)⟩,
           ⟨some 31, none, .load false 1 (.t 30)⟩,
           ⟨some 32, none, .conv .u64 (.t 31)⟩,
           ⟨some 33, none, .bslice 6 1 1 [.int .u64 0] [(0, .t 32)]⟩,
           ⟨some 34, none, .call 54 [.t 29, .k (.int .i64 4), .t 33]⟩,
           ⟨some 28, none, .mv (.t 34)⟩,
           ⟨some 35, none, .ext (.t 28) 0⟩,
           ⟨some 36, none, .ext (.t 28) 1⟩,
           ⟨some 5, none, .mv (.t 35)⟩])
         (.keep [1, 5]
          (.seq
           (.ops [⟨some 37, none, .mv (.t 5)⟩,
             ⟨some 38, none, .fldA 3 (.t 1)⟩,
             ⟨some 39, none, .slcA 8 1 (.t 38) none none none⟩,
             ⟨some 40, none, .app 4 1 (.t 37) (.t 39)⟩,
             ⟨some 5, none, .mv (.t 40)⟩])
           (.keep [1, 5]
            (.seq
             (.ops [⟨some 42, none, .mv (.t 5)⟩,
               ⟨some 43, none, .fldA 11 (.t 1)⟩,
               ⟨some 44, none, .load false 1 (.t 43)⟩,
               ⟨some 45, none, .conv .u64 (.t 44)⟩,
               ⟨some 46, none, .fldA 12 (.t 1)⟩,
               ⟨some 47, none, .load false 1 (.t 46)⟩,
               ⟨some 48, none, .conv .u64 (.t 47)⟩,
               ⟨some 49, none, .fldA 13 (.t 1)⟩,
               ⟨some 50, none, .load false 1 (.t 49)⟩,
               ⟨some 51, none, .conv .u64 (.t 50)⟩,
               ⟨some 52, none, .bslice 6 1 3 [.int .u64 0] [(0, .t 45), (1, .t 48), (2, .t 51)]⟩,
               ⟨some 53, none, .call 54 [.t 42, .k (.int .i64 4), .t 52]⟩,
               ⟨some 41, none, .mv (.t 53)⟩,
               ⟨some 54, none, .ext (.t 41) 0⟩,
               ⟨some 55, none, .ext (.t 41) 1⟩,
               ⟨some 5, none, .mv (.t 54)⟩])
             (.keep [1, 5]
              (.seq
               (.ops [⟨some 56, none, .mv (.t 5)⟩,
                 ⟨some 57, none, .fldA 14 (.t 1)⟩,
                 ⟨some 58, none, .load false 1 (.t 57)⟩,
                 ⟨some 59, none, .conv .u64 (.t 58)⟩,
                 ⟨some 60, none, .bslice 6 1 1 [.int .u64 0] [(0, .t 59)]⟩,
                 ⟨some 61, none, .call 54 [.t 56, .k (.int .i64 2), .t 60]⟩,
                 ⟨some 62, none, .ext (.t 61) 0⟩,
                 ⟨some 63, none, .ext (.t 61) 1⟩,
                 ⟨some 2, none, .mv (.t 62)⟩,
                 ⟨some 3, none, .mv (.t 63)⟩])
               (.keep [2, 3]
                .ret))))))))))))))) }
structure N45 (R : Env) : Prop where
  o45 : R.Fn 45 c45
  n41 : N41 R
  n54 : N54 R
/-- (umbra.manifest.decoder).int -/
def c58 : IFn := { np := 2, rs := [.t 4], body :=
 (.seq
  (.ops [⟨some 2, none, .box 7 (.t 0)⟩,
    ⟨some 4, none, .mv (.k (.int .i64 0))⟩])
  (.seq
   (.ops [⟨some 5, none, .fldA 0 (.t 2)⟩,
     ⟨some 6, none, .load false 1 (.t 5)⟩,
     ⟨some 7, none, .mv (.t 1)⟩,
     ⟨some 8, none, .call 57 [.t 6, .t 7]⟩,
     ⟨some 9, none, .conv .i64 (.t 8)⟩,
     ⟨some 4, none, .mv (.t 9)⟩])
   (.keep [4]
    .ret))) }
structure N58 (R : Env) : Prop where
  o58 : R.Fn 58 c58
  n57 : N57 R
/-- umbra.manifest.Decode (NOT WHOLE: ['op .slcA', 'op .copy']) -/
def c49 : IFn := { np := 1, rs := [.cell 2 true 15, .t 3], body :=
 (.seq
  (.ops [⟨some 2, none, .alloc 2 [.int .u64 0, .int .i64 0, .int .u32 0, .int .u8 0, .int .u8 0, .int .u8 0, .int .u8 0, .int .u8 0, .int .u8 0, .int .u8 0, .int .u8 0, .int .u32 0, .int .u32 0, .int .i64 0, .int .i64 0]⟩,
    ⟨some 3, none, .mv (.k (.int .i64 0))⟩])
  (.seq
   (.ops [⟨some 8, none, .mv (.t 0)⟩,
     ⟨some 9, none, .call 56 [.t 8]⟩,
     ⟨some 10, none, .build [.nilp] [(0, 1, .t 9)]⟩,
     ⟨some 4, none, .alloc 7 [.nilp]⟩,
     ⟨none, none, .store 1 (.t 4) (.t 10)⟩])
   (.keep [2, 4]
    (.seq
     (.draw [0, 1, 3, 0, 15, 0, 32, 127, 255, 511, 0, 2047] [[4], [11], [12], [4], [14], [4], [16], [17], [18], [13, 15, 19], [], [5, 20]] [⟨some 11, none, .fldA 0 (.t 4)⟩,
       ⟨some 12, none, .load false 1 (.t 11)⟩,
       ⟨some 13, none, .call 57 [.t 12, .k (.int .i64 8)]⟩,
       ⟨some 14, none, .load true 1 (.t 4)⟩,
       ⟨some 15, none, .call 58 [.t 14, .k (.int .i64 1)]⟩,
       ⟨some 16, none, .fldA 0 (.t 4)⟩,
       ⟨some 17, none, .load false 1 (.t 16)⟩,
       ⟨some 18, none, .call 57 [.t 17, .k (.int .i64 4)]⟩,
       ⟨some 19, none, .conv .u32 (.t 18)⟩,
       ⟨some 20, none, .build [.int .u64 0, .int .i64 0, .int .u32 0, .int .u8 0, .int .u8 0, .int .u8 0, .int .u8 0, .int .u8 0, .int .u8 0, .int .u8 0, .int .u8 0, .int .u32 0, .int .u32 0, .int .i64 0, .int .i64 0] [(0, 1, .t 13), (1, 1, .t 15), (2, 1, .t 19)]⟩,
       ⟨some 5, none, .alloc 2 [.int .u64 0, .int .i64 0, .int .u32 0, .int .u8 0, .int .u8 0, .int .u8 0, .int .u8 0, .int .u8 0, .int .u8 0, .int .u8 0, .int .u8 0, .int .u32 0, .int .u32 0, .int .i64 0, .int .i64 0]⟩,
       ⟨none, none, .store 15 (.t 5) (.t 20)⟩])
     (.keep [2, 4, 5]
      (.seq
       (.draw [0, 1, 0, 4, 12, 31] [[5], [21], [4], [23], [24], [22, 25]] [⟨some 21, none, .fldA 3 (.t 5)⟩,
         ⟨some 22, none, .slcA 8 1 (.t 21) none none none⟩,
         ⟨some 23, none, .fldA 0 (.t 4)⟩,
         ⟨some 24, none, .load false 1 (.t 23)⟩,
         ⟨some 25, none, .call 59 [.t 24, .k (.int .i64 8)]⟩,
         ⟨some 26, none, .copy 1 (.t 22) (.t 25)⟩])
       (.keep [2, 4, 5]
        (.seq
         (.draw [0, 1, 3, 7, 0, 16, 55, 119, 0, 375, 0, 1911, 3967, 8063, 16383, 32767, 65535, 131071, 262143, 524287] [[4], [27], [28], [29], [4], [31], [32], [33], [4], [35], [4], [37], [5], [39, 30], [5], [40, 34], [5], [41, 36], [5], [42, 38]] [⟨some 27, none, .fldA 0 (.t 4)⟩,
           ⟨some 28, none, .load false 1 (.t 27)⟩,
           ⟨some 29, none, .call 57 [.t 28, .k (.int .i64 4)]⟩,
           ⟨some 30, none, .conv .u32 (.t 29)⟩,
           ⟨some 31, none, .fldA 0 (.t 4)⟩,
           ⟨some 32, none, .load false 1 (.t 31)⟩,
           ⟨some 33, none, .call 57 [.t 32, .k (.int .i64 4)]⟩,
           ⟨some 34, none, .conv .u32 (.t 33)⟩,
           ⟨some 35, none, .load true 1 (.t 4)⟩,
           ⟨some 36, none, .call 58 [.t 35, .k (.int .i64 4)]⟩,
           ⟨some 37, none, .load true 1 (.t 4)⟩,
           ⟨some 38, none, .call 58 [.t 37, .k (.int .i64 2)]⟩,
           ⟨some 39, none, .fldA 11 (.t 5)⟩,
           ⟨none, none, .store 1 (.t 39) (.t 30)⟩,
           ⟨some 40, none, .fldA 12 (.t 5)⟩,
           ⟨none, none, .store 1 (.t 40) (.t 34)⟩,
           ⟨some 41, none, .fldA 13 (.t 5)⟩,
           ⟨none, none, .store 1 (.t 41) (.t 36)⟩,
           ⟨some 42, none, .fldA 14 (.t 5)⟩,
           ⟨none, none, .store 1 (.t 42) (.t 38)⟩])
         (.keep [2, 4, 5]
          (.seq
           (.seq
            (.ops [⟨some 43, none, .fldA 0 (.t 4)⟩,
              ⟨some 44, none, .load false 1 (.t 43)⟩,
              ⟨some 45, none, .call 60 [.t 44]⟩,
              ⟨some 6, none, .mv (.t 45)⟩])
            (.seq
             (.ops [⟨some 46, none, .mv (.t 6)⟩,
               ⟨some 47, none, .bin .neq (.t 46) (.k (.int .i64 0))⟩])
             (.cond (.t 47)
              (.seq
               (.ops [⟨some 48, none, .build [.int .u64 0, .int .i64 0, .int .u32 0, .int .u8 0, .int .u8 0, .int .u8 0, .int .u8 0, .int .u8 0, .int .u8 0, .int .u8 0, .int .u8 0, .int .u32 0, .int .u32 0, .int .i64 0, .int .i64 0] []⟩,
                 ⟨some 49, none, .mv (.t 6)⟩,
                 ⟨none, none, .store 15 (.t 2) (.t 48)⟩,
                 ⟨some 3, none, .mv (.t 49)⟩])
               .ret)
              .skip)))
           (.keep [2, 5]
            (.seq
             (.seq
              (.ops [⟨some 50, none, .load true 15 (.t 5)⟩,
                ⟨some 51, none, .call 41 [.t 50]⟩,
                ⟨some 7, none, .mv (.t 51)⟩])
              (.seq
               (.ops [⟨some 52, none, .mv (.t 7)⟩,
                 ⟨some 53, none, .bin .neq (.t 52) (.k (.int .i64 0))⟩])
               (.cond (.t 53)
                (.seq
                 (.ops [⟨some 54, none, .build [.int .u64 0, .int .i64 0, .int .u32 0, .int .u8 0, .int .u8 0, .int .u8 0, .int .u8 0, .int .u8 0, .int .u8 0, .int .u8 0, .int .u8 0, .int .u32 0, .int .u32 0, .int .i64 0, .int .i64 0] []⟩,
                   ⟨some 55, none, .mv (.t 7)⟩,
                   ⟨none, none, .store 15 (.t 2) (.t 54)⟩,
                   ⟨some 3, none, .mv (.t 55)⟩])
                 .ret)
                .skip)))
             (.keep [2, 5]
              (.seq
               (.ops [⟨some 56, none, .load true 15 (.t 5)⟩,
                 ⟨none, none, .store 15 (.t 2) (.t 56)⟩,
                 ⟨some 3, none, .mv (.k (.int .i64 0))⟩])
               .ret)))))))))))))) }
structure N49 (R : Env) : Prop where
  o49 : R.Fn 49 c49
  n41 : N41 R
  n56 : N56 R
  n57 : N57 R
  n58 : N58 R
  n59 : N59 R
  n60 : N60 R
end Go.UM

/- The resolved code of package umbraref11, function by function; numbers are those of the register, the same for all programs. -/

namespace Go.UM
open Go.AM
/-- umbra.umbraref11.most -/
def c63 : IFn := { np := 1, rs := [.t 2], body :=
 (.seq
  (.ops [⟨some 2, none, .mv (.k (.int .u64 0))⟩])
  (.seq
   (.ops [⟨some 3, none, .mv (.k (.int .u64 0))⟩])
   (.seq
    (.seq
     (.ops [⟨some 4, none, .mv (.k (.int .i64 0))⟩])
     (.keep [0, 3, 4]
      (.block 0
       (.loop
        (.seq
         (.seq
          (.ops [⟨some 5, none, .mv (.t 4)⟩,
            ⟨some 6, none, .mv (.t 0)⟩,
            ⟨some 7, none, .bin .lss (.t 5) (.t 6)⟩])
          (.cond (.t 7)
           .skip
           (.exit 0)))
         (.keep [0, 3, 4]
          (.seq
           (.block 1
            (.ops [⟨some 10, none, .mv (.t 3)⟩,
              ⟨some 11, none, .bin .mul (.t 10) (.k (.int .u64 256))⟩,
              ⟨some 12, none, .bin .add (.t 11) (.k (.int .u64 255))⟩,
              ⟨some 3, none, .mv (.t 12)⟩]))
           (.keep [0, 3, 4]
            (.ops [⟨some 8, none, .mv (.t 4)⟩,
              ⟨some 9, none, .bin .add (.t 8) (.k (.int .i64 1))⟩,
              ⟨some 4, none, .mv (.t 9)⟩])))))))))
    (.keep [3]
     (.seq
      (.ops [⟨some 13, none, .mv (.t 3)⟩,
        ⟨some 2, none, .mv (.t 13)⟩])
      .ret))))) }
structure N63 (R : Env) : Prop where
  o63 : R.Fn 63 c63
/-- umbra.umbraref11.Put -/
def c55 : IFn := { np := 3, rs := [.t 6, .t 7], body :=
 (.seq
  (.ops [⟨some 6, none, .mv (.k (.nils))⟩,
    ⟨some 7, none, .mv (.k (.int .i64 0))⟩])
  (.seq
   (.seq
    (.ops [⟨some 12, none, .mv (.t 1)⟩,
      ⟨some 13, none, .bin .lss (.t 12) (.k (.int .i64 1))⟩,
      ⟨some 14, none, .mv (.t 13)⟩,
      ⟨some 15, some (14, false), .mv (.t 1)⟩,
      ⟨some 16, some (14, false), .bin .gtr (.t 15) (.k (.int .i64 8))⟩,
      ⟨some 17, none, .pick (.t 14) (.k (.bool true)) (.t 16)⟩])
    (.keep [0, 1, 2, 17]
     (.cond (.t 17)
      (.seq
       (.ops [⟨some 6, none, .mv (.k (.nils))⟩,
         ⟨some 7, none, .mv (.k (.int .i64 2))⟩])
       .ret)
      .skip)))
   (.keep [0, 1, 2]
    (.seq
     (.ops [⟨some 18, none, .bslice 4 1 0 [.int .u8 0] []⟩,
       ⟨some 19, none, .mv (.t 0)⟩,
       ⟨some 20, none, .app 4 1 (.t 18) (.t 19)⟩,
       ⟨some 8, none, .mv (.t 20)⟩])
     (.seq
      (.seq
       (.ops [⟨some 9, none, .mv (.k (.int .i64 0))⟩])
       (.keep [1, 2, 8, 9]
        (.block 0
         (.loop
          (.seq
           (.seq
            (.ops [⟨some 21, none, .mv (.t 9)⟩,
              ⟨some 22, none, .mv (.t 2)⟩,
              ⟨some 23, none, .lenS (.t 22)⟩,
              ⟨some 24, none, .bin .lss (.t 21) (.t 23)⟩])
            (.cond (.t 24)
             .skip
             (.exit 0)))
           (.keep [1, 2, 8, 9]
            (.seq
             (.block 1
              (.seq
               (.seq
                (.draw [0, 0, 3, 7, 0, 16, 63] [[2], [9], [27, 28], [29], [1], [31], [30, 32]] [⟨some 27, none, .mv (.t 2)⟩,
                  ⟨some 28, none, .mv (.t 9)⟩,
                  ⟨some 29, none, .idxS 1 (.t 27) (.t 28)⟩,
                  ⟨some 30, none, .load false 1 (.t 29)⟩,
                  ⟨some 31, none, .mv (.t 1)⟩,
                  ⟨some 32, none, .call 63 [.t 31]⟩,
                  ⟨some 33, none, .bin .gtr (.t 30) (.t 32)⟩])
                (.keep [1, 2, 8, 9, 33]
                 (.cond (.t 33)
                  (.seq
                   (.ops [⟨some 6, none, .mv (.k (.nils))⟩,
                     ⟨some 7, none, .mv (.k (.int .i64 3))⟩])
                   .ret)
                  .skip)))
               (.keep [1, 2, 8, 9]
                (.seq
                 (.ops [⟨some 34, none, .mv (.t 2)⟩,
                   ⟨some 35, none, .mv (.t 9)⟩,
                   ⟨some 36, none, .idxS 1 (.t 34) (.t 35)⟩,
                   ⟨some 37, none, .load false 1 (.t 36)⟩,
                   ⟨some 10, none, .mv (.t 37)⟩])
                 (.keep [1, 2, 8, 9, 10]
                  (.seq
                   (.ops [⟨some 11, none, .mv (.k (.int .i64 0))⟩])
                   (.keep [1, 2, 8, 9, 10, 11]
                    (.block 2
                     (.loop
                      (.seq
                       (.seq
                        (.ops [⟨some 38, none, .mv (.t 11)⟩,
                          ⟨some 39, none, .mv (.t 1)⟩,
                          ⟨some 40, none, .bin .lss (.t 38) (.t 39)⟩])
                        (.cond (.t 40)
                         .skip
                         (.exit 2)))
                       (.keep [1, 2, 8, 9, 10, 11]
                        (.seq
                         (.block 3
                          (.seq
                           (.ops [⟨some 43, none, .mv (.t 8)⟩,
                             ⟨some 44, none, .mv (.t 10)⟩,
                             ⟨some 45, none, .bin .rem (.t 44) (.k (.int .u64 256))⟩,
                             ⟨some 46, none, .conv .u8 (.t 45)⟩,
                             ⟨some 47, none, .bslice 4 1 1 [.int .u8 0] [(0, .t 46)]⟩,
                             ⟨some 48, none, .app 4 1 (.t 43) (.t 47)⟩,
                             ⟨some 8, none, .mv (.t 48)⟩])
                           (.keep [1, 2, 8, 9, 10, 11]
                            (.ops [⟨some 49, none, .mv (.t 10)⟩,
                              ⟨some 50, none, .bin .quo (.t 49) (.k (.int .u64 256))⟩,
                              ⟨some 10, none, .mv (.t 50)⟩]))))
                         (.keep [1, 2, 8, 9, 10, 11]
                          (.ops [⟨some 41, none, .mv (.t 11)⟩,
                            ⟨some 42, none, .bin .add (.t 41) (.k (.int .i64 1))⟩,
                            ⟨some 11, none, .mv (.t 42)⟩]))))))))))))))
             (.keep [1, 2, 8, 9]
              (.ops [⟨some 25, none, .mv (.t 9)⟩,
                ⟨some 26, none, .bin .add (.t 25) (.k (.int .i64 1))⟩,
                ⟨some 9, none, .mv (.t 26)⟩])))))))))
      (.keep [8]
       (.seq
        (.ops [⟨some 51, none, .mv (.t 8)⟩,
          ⟨some 6, none, .mv (.t 51)⟩,
          ⟨some 7, none, .mv (.k (.int .i64 0))⟩])
        .ret))))))) }
structure N55 (R : Env) : Prop where
  o55 : R.Fn 55 c55
  n63 : N63 R
/-- (*umbra.umbraref11.Reader).Take -/
def c66 : IFn := { np := 2, rs := [.t 4], body :=
 (.seq
  (.ops [⟨some 4, none, .mv (.k (.nils))⟩])
  (.seq
   (.seq
    (.ops [⟨some 5, none, .mv (.t 0)⟩,
      ⟨some 6, none, .nilck (.t 5)⟩,
      ⟨some 7, none, .fldA 2 (.t 6)⟩,
      ⟨some 8, none, .load false 1 (.t 7)⟩,
      ⟨some 9, none, .bin .eql (.t 8) (.k (.int .i64 0))⟩,
      ⟨some 10, none, .mv (.t 9)⟩,
      ⟨some 11, some (10, true), .mv (.t 1)⟩,
      ⟨some 12, some (10, true), .bin .lss (.t 11) (.k (.int .i64 0))⟩,
      ⟨some 13, none, .pick (.t 10) (.t 12) (.k (.bool false))⟩])
    (.keep [0, 1, 13]
     (.cond (.t 13)
      (.ops [⟨some 14, none, .mv (.t 0)⟩,
        ⟨some 15, none, .nilck (.t 14)⟩,
        ⟨some 16, none, .fldA 2 (.t 15)⟩,
        ⟨none, none, .store 1 (.t 16) (.k (.int .i64 2))⟩])
      .skip)))
   (.keep [0, 1]
    (.seq
     (.seq
      (.draw [0, 1, 3, 7, 15, 31, 63, 63, 191, 447, 959, 1983, 63, 4159, 12351, 28735, 65471, 131071, 262143] [[0], [17], [18], [19], [20], [21], [1], [0], [24], [25], [26], [27], [0], [29], [30], [31], [28, 32], [23, 33], [22, 34]] [⟨some 17, none, .mv (.t 0)⟩,
        ⟨some 18, none, .nilck (.t 17)⟩,
        ⟨some 19, none, .fldA 2 (.t 18)⟩,
        ⟨some 20, none, .load false 1 (.t 19)⟩,
        ⟨some 21, none, .bin .eql (.t 20) (.k (.int .i64 0))⟩,
        ⟨some 22, none, .mv (.t 21)⟩,
        ⟨some 23, some (22, true), .mv (.t 1)⟩,
        ⟨some 24, some (22, true), .mv (.t 0)⟩,
        ⟨some 25, some (22, true), .nilck (.t 24)⟩,
        ⟨some 26, some (22, true), .fldA 0 (.t 25)⟩,
        ⟨some 27, some (22, true), .load false 1 (.t 26)⟩,
        ⟨some 28, some (22, true), .lenS (.t 27)⟩,
        ⟨some 29, some (22, true), .mv (.t 0)⟩,
        ⟨some 30, some (22, true), .nilck (.t 29)⟩,
        ⟨some 31, some (22, true), .fldA 1 (.t 30)⟩,
        ⟨some 32, some (22, true), .load false 1 (.t 31)⟩,
        ⟨some 33, some (22, true), .bin .sub (.t 28) (.t 32)⟩,
        ⟨some 34, some (22, true), .bin .gtr (.t 23) (.t 33)⟩,
        ⟨some 35, none, .pick (.t 22) (.t 34) (.k (.bool false))⟩])
      (.keep [0, 1, 35]
       (.cond (.t 35)
        (.ops [⟨some 36, none, .mv (.t 0)⟩,
          ⟨some 37, none, .nilck (.t 36)⟩,
          ⟨some 38, none, .fldA 2 (.t 37)⟩,
          ⟨none, none, .store 1 (.t 38) (.k (.int .i64 4))⟩])
        .skip)))
     (.keep [0, 1]
      (.seq
       (.seq
        (.ops [⟨some 39, none, .mv (.t 0)⟩,
          ⟨some 40, none, .nilck (.t 39)⟩,
          ⟨some 41, none, .fldA 2 (.t 40)⟩,
          ⟨some 42, none, .load false 1 (.t 41)⟩,
          ⟨some 43, none, .bin .neq (.t 42) (.k (.int .i64 0))⟩])
        (.keep [0, 1, 43]
         (.cond (.t 43)
          (.seq
           (.ops [⟨some 4, none, .mv (.k (.nils))⟩])
           .ret)
          .skip)))
       (.keep [0, 1]
        (.seq
         (.ops [⟨some 44, none, .mv (.t 0)⟩,
           ⟨some 45, none, .mv (.t 0)⟩,
           ⟨some 46, none, .nilck (.t 45)⟩,
           ⟨some 47, none, .fldA 1 (.t 46)⟩,
           ⟨some 48, none, .load false 1 (.t 47)⟩,
           ⟨some 49, none, .mv (.t 1)⟩,
           ⟨some 50, none, .bin .add (.t 48) (.t 49)⟩,
           ⟨some 51, none, .nilck (.t 44)⟩,
           ⟨some 52, none, .fldA 1 (.t 51)⟩,
           ⟨none, none, .store 1 (.t 52) (.t 50)⟩])
         (.keep [0, 1]
          (.seq
           (.draw [0, 1, 3, 7, 0, 16, 48, 112, 0, 496, 0, 1024, 3072, 7168, 16383, 32767] [[0], [53], [54], [55], [0], [57], [58], [59], [1], [60, 61], [0], [63], [64], [65], [56, 62, 66], [67]] [⟨some 53, none, .mv (.t 0)⟩,
             ⟨some 54, none, .nilck (.t 53)⟩,
             ⟨some 55, none, .fldA 0 (.t 54)⟩,
             ⟨some 56, none, .load false 1 (.t 55)⟩,
             ⟨some 57, none, .mv (.t 0)⟩,
             ⟨some 58, none, .nilck (.t 57)⟩,
             ⟨some 59, none, .fldA 1 (.t 58)⟩,
             ⟨some 60, none, .load false 1 (.t 59)⟩,
             ⟨some 61, none, .mv (.t 1)⟩,
             ⟨some 62, none, .bin .sub (.t 60) (.t 61)⟩,
             ⟨some 63, none, .mv (.t 0)⟩,
             ⟨some 64, none, .nilck (.t 63)⟩,
             ⟨some 65, none, .fldA 1 (.t 64)⟩,
             ⟨some 66, none, .load false 1 (.t 65)⟩,
             ⟨some 67, none, .slcS 4 1 (.t 56) (some (.t 62)) (some (.t 66)) none⟩,
             ⟨some 4, none, .mv (.t 67)⟩])
           (.keep [4]
            .ret))))))))))) }
structure N66 (R : Env) : Prop where
  o66 : R.Fn 66 c66
/-- (*umbra.umbraref11.Reader).Num -/
def c61 : IFn := { np := 2, rs := [.t 4], body :=
 (.seq
  (.ops [⟨some 4, none, .mv (.k (.int .u64 0))⟩])
  (.seq
   (.seq
    (.ops [⟨some 8, none, .mv (.t 0)⟩,
      ⟨some 9, none, .nilck (.t 8)⟩,
      ⟨some 10, none, .fldA 2 (.t 9)⟩,
      ⟨some 11, none, .load false 1 (.t 10)⟩,
      ⟨some 12, none, .bin .eql (.t 11) (.k (.int .i64 0))⟩,
      ⟨some 13, none, .mv (.t 12)⟩,
      ⟨some 14, some (13, true), .mv (.t 1)⟩,
      ⟨some 15, some (13, true), .bin .lss (.t 14) (.k (.int .i64 1))⟩,
      ⟨some 16, some (13, true), .mv (.t 15)⟩,
      ⟨some 17, some (16, false), .mv (.t 1)⟩,
      ⟨some 18, some (16, false), .bin .gtr (.t 17) (.k (.int .i64 8))⟩,
      ⟨some 19, some (13, true), .pick (.t 16) (.k (.bool true)) (.t 18)⟩,
      ⟨some 20, none, .pick (.t 13) (.t 19) (.k (.bool false))⟩])
    (.keep [0, 1, 20]
     (.cond (.t 20)
      (.ops [⟨some 21, none, .mv (.t 0)⟩,
        ⟨some 22, none, .nilck (.t 21)⟩,
        ⟨some 23, none, .fldA 2 (.t 22)⟩,
        ⟨none, none, .store 1 (.t 23) (.k (.int .i64 2))⟩])
      .skip)))
   (.keep [0, 1]
    (.seq
     (.ops [⟨some 24, none, .mv (.t 0)⟩,
       ⟨some 25, none, .mv (.t 1)⟩,
       ⟨some 26, none, .mm true [.t 25, .k (.int .i64 0)]⟩,
       ⟨some 27, none, .call 66 [.t 24, .t 26]⟩,
       ⟨some 5, none, .mv (.t 27)⟩])
     (.keep [5]
      (.seq
       (.ops [⟨some 6, none, .mv (.k (.int .u64 0))⟩])
       (.seq
        (.seq
         (.ops [⟨some 28, none, .mv (.t 5)⟩,
           ⟨some 29, none, .lenS (.t 28)⟩,
           ⟨some 30, none, .bin .sub (.t 29) (.k (.int .i64 1))⟩,
           ⟨some 7, none, .mv (.t 30)⟩])
         (.keep [5, 6, 7]
          (.block 0
           (.loop
            (.seq
             (.seq
              (.ops [⟨some 31, none, .mv (.t 7)⟩,
                ⟨some 32, none, .bin .geq (.t 31) (.k (.int .i64 0))⟩])
              (.cond (.t 32)
               .skip
               (.exit 0)))
             (.keep [5, 6, 7]
              (.seq
               (.block 1
                (.ops [⟨some 35, none, .mv (.t 6)⟩,
                  ⟨some 36, none, .bin .mul (.t 35) (.k (.int .u64 256))⟩,
                  ⟨some 37, none, .mv (.t 5)⟩,
                  ⟨some 38, none, .mv (.t 7)⟩,
                  ⟨some 39, none, .idxS 1 (.t 37) (.t 38)⟩,
                  ⟨some 40, none, .load false 1 (.t 39)⟩,
                  ⟨some 41, none, .conv .u64 (.t 40)⟩,
                  ⟨some 42, none, .bin .add (.t 36) (.t 41)⟩,
                  ⟨some 6, none, .mv (.t 42)⟩]))
               (.keep [5, 6, 7]
                (.ops [⟨some 33, none, .mv (.t 7)⟩,
                  ⟨some 34, none, .bin .sub (.t 33) (.k (.int .i64 1))⟩,
                  ⟨some 7, none, .mv (.t 34)⟩])))))))))
        (.keep [6]
         (.seq
          (.ops [⟨some 43, none, .mv (.t 6)⟩,
            ⟨some 4, none, .mv (.t 43)⟩])
          .ret))))))))) }
structure N61 (R : Env) : Prop where
  o61 : R.Fn 61 c61
  n66 : N66 R
end Go.UM

/- The resolved code of package umbraref12, function by function; numbers are those of the register, the same for all programs. -/

namespace Go.UM
open Go.AM
/-- umbra.umbraref12.Cap -/
def c38 : IFn := { np := 1, rs := [.t 2], body :=
 (.seq
  (.ops [⟨some 2, none, .mv (.k (.int .i64 0))⟩])
  (.seq
   (.seq
    (.ops [⟨some 3, none, .mv (.t 0)⟩])
    (.block 0
     (.seq
      (.ops [⟨some 5, none, .bin .eql (.t 3) (.k (.int .i64 1))⟩,
        ⟨some 4, none, .mv (.t 5)⟩])
      (.cond (.t 4)
       (.seq
        (.ops [⟨some 2, none, .mv (.k (.int .i64 2048))⟩])
        .ret)
       (.seq
        (.ops [⟨some 7, none, .bin .eql (.t 3) (.k (.int .i64 2))⟩,
          ⟨some 6, none, .mv (.t 7)⟩])
        (.cond (.t 6)
         (.seq
          (.ops [⟨some 2, none, .mv (.k (.int .i64 1024))⟩])
          .ret)
         (.seq
          (.seq
           (.ops [⟨some 9, none, .bin .eql (.t 3) (.k (.int .i64 3))⟩,
             ⟨some 8, none, .mv (.t 9)⟩])
           (.cond (.t 8)
            .skip
            (.ops [⟨some 10, none, .bin .eql (.t 3) (.k (.int .i64 4))⟩,
              ⟨some 8, none, .mv (.t 10)⟩])))
          (.keep [8]
           (.cond (.t 8)
            (.seq
             (.ops [⟨some 2, none, .mv (.k (.int .i64 64))⟩])
             .ret)
            .skip)))))))))
   (.keep []
    (.seq
     (.ops [⟨some 2, none, .mv (.k (.int .i64 0))⟩])
     .ret)))) }
structure N38 (R : Env) : Prop where
  o38 : R.Fn 38 c38
/-- umbra.umbraref12.Chunks -/
def c40 : IFn := { np := 1, rs := [.t 2], body :=
 (.seq
  (.ops [⟨some 2, none, .mv (.k (.int .i64 0))⟩])
  (.seq
   (.ops [⟨some 3, none, .mv (.k (.int .i64 0))⟩])
   (.keep [0, 3]
    (.seq
     (.block 0
      (.loop
       (.seq
        (.seq
         (.ops [⟨some 4, none, .mv (.t 0)⟩,
           ⟨some 5, none, .mv (.t 3)⟩,
           ⟨some 6, none, .bin .mul (.k (.int .i64 256)) (.t 5)⟩,
           ⟨some 7, none, .bin .gtr (.t 4) (.t 6)⟩,
           ⟨some 8, none, .mv (.t 7)⟩,
           ⟨some 9, some (8, true), .mv (.t 3)⟩,
           ⟨some 10, some (8, true), .bin .lss (.t 9) (.k (.int .i64 1000))⟩,
           ⟨some 11, none, .pick (.t 8) (.t 10) (.k (.bool false))⟩])
         (.keep [0, 3, 11]
          (.cond (.t 11)
           .skip
           (.exit 0))))
        (.keep [0, 3]
         (.block 1
          (.ops [⟨some 12, none, .mv (.t 3)⟩,
            ⟨some 13, none, .bin .add (.t 12) (.k (.int .i64 1))⟩,
            ⟨some 3, none, .mv (.t 13)⟩]))))))
     (.keep [0, 3]
      (.seq
       (.seq
        (.ops [⟨some 14, none, .mv (.t 0)⟩,
          ⟨some 15, none, .mv (.t 3)⟩,
          ⟨some 16, none, .bin .mul (.k (.int .i64 256)) (.t 15)⟩,
          ⟨some 17, none, .bin .gtr (.t 14) (.t 16)⟩])
        (.cond (.t 17)
         (.ops [⟨some 18, none, .mv (.t 0)⟩,
           ⟨some 19, none, .bin .quo (.t 18) (.k (.int .i64 256))⟩,
           ⟨some 20, none, .mv (.t 0)⟩,
           ⟨some 21, none, .bin .rem (.t 20) (.k (.int .i64 256))⟩,
           ⟨some 22, none, .mm false [.t 21, .k (.int .i64 1)]⟩,
           ⟨some 23, none, .bin .add (.t 19) (.t 22)⟩,
           ⟨some 3, none, .mv (.t 23)⟩])
         .skip))
       (.keep [3]
        (.seq
         (.ops [⟨some 24, none, .mv (.t 3)⟩,
           ⟨some 2, none, .mv (.t 24)⟩])
         .ret)))))))) }
structure N40 (R : Env) : Prop where
  o40 : R.Fn 40 c40
/-- umbra.umbraref12.Check -/
def c42 : IFn := { np := 1, rs := [.t 2], body :=
 (.seq
  (.ops [⟨some 1, none, .box 2 (.t 0)⟩,
    ⟨some 2, none, .mv (.k (.int .i64 0))⟩])
  (.seq
   (.seq
    (.ops [⟨some 4, none, .fldA 1 (.t 1)⟩,
      ⟨some 5, none, .load false 1 (.t 4)⟩,
      ⟨some 6, none, .call 38 [.t 5]⟩,
      ⟨some 7, none, .bin .eql (.t 6) (.k (.int .i64 0))⟩])
    (.cond (.t 7)
     (.seq
      (.ops [⟨some 2, none, .mv (.k (.int .i64 12))⟩])
      .ret)
     .skip))
   (.keep [1]
    (.seq
     (.seq
      (.ops [⟨some 3, none, .mv (.k (.int .i64 0))⟩])
      (.keep [1, 3]
       (.block 0
        (.loop
         (.seq
          (.seq
           (.ops [⟨some 8, none, .mv (.t 3)⟩,
             ⟨some 9, none, .bin .lss (.t 8) (.k (.int .i64 8))⟩])
           (.cond (.t 9)
            .skip
            (.exit 0)))
          (.keep [1, 3]
           (.seq
            (.block 1
             (.seq
              (.ops [⟨some 12, none, .mv (.t 3)⟩,
                ⟨some 13, none, .fldA 3 (.t 1)⟩,
                ⟨some 14, none, .idxA 8 1 (.t 13) (.t 12)⟩,
                ⟨some 15, none, .load false 1 (.t 14)⟩,
                ⟨some 16, none, .bin .geq (.t 15) (.k (.int .u8 16))⟩])
              (.keep [1, 3, 16]
               (.cond (.t 16)
                (.seq
                 (.ops [⟨some 2, none, .mv (.k (.int .i64 5))⟩])
                 .ret)
                .skip))))
            (.keep [1, 3]
             (.ops [⟨some 10, none, .mv (.t 3)⟩,
               ⟨some 11, none, .bin .add (.t 10) (.k (.int .i64 1))⟩,
               ⟨some 3, none, .mv (.t 11)⟩])))))))))
     (.keep [1]
      (.seq
       (.seq
        (.ops [⟨some 17, none, .fldA 11 (.t 1)⟩,
          ⟨some 18, none, .load false 1 (.t 17)⟩,
          ⟨some 19, none, .fldA 12 (.t 1)⟩,
          ⟨some 20, none, .load false 1 (.t 19)⟩,
          ⟨some 21, none, .bin .gtr (.t 18) (.t 20)⟩,
          ⟨some 22, none, .mv (.t 21)⟩,
          ⟨some 23, some (22, false), .fldA 13 (.t 1)⟩,
          ⟨some 24, some (22, false), .load false 1 (.t 23)⟩,
          ⟨some 25, some (22, false), .bin .lss (.t 24) (.k (.int .i64 1))⟩,
          ⟨some 26, none, .pick (.t 22) (.k (.bool true)) (.t 25)⟩])
        (.keep [1, 26]
         (.cond (.t 26)
          (.seq
           (.ops [⟨some 2, none, .mv (.k (.int .i64 5))⟩])
           .ret)
          .skip)))
       (.keep [1]
        (.seq
         (.seq
          (.draw [0, 1, 0, 4, 12, 31] [[1], [27], [1], [29], [30], [28, 31]] [⟨some 27, none, .fldA 13 (.t 1)⟩,
            ⟨some 28, none, .load false 1 (.t 27)⟩,
            ⟨some 29, none, .fldA 1 (.t 1)⟩,
            ⟨some 30, none, .load false 1 (.t 29)⟩,
            ⟨some 31, none, .call 38 [.t 30]⟩,
            ⟨some 32, none, .bin .gtr (.t 28) (.t 31)⟩])
          (.keep [1, 32]
           (.cond (.t 32)
            (.seq
             (.ops [⟨some 2, none, .mv (.k (.int .i64 9))⟩])
             .ret)
            .skip)))
         (.keep [1]
          (.seq
           (.seq
            (.draw [0, 1, 0, 4, 12, 31] [[1], [33], [1], [35], [36], [34, 37]] [⟨some 33, none, .fldA 14 (.t 1)⟩,
              ⟨some 34, none, .load false 1 (.t 33)⟩,
              ⟨some 35, none, .fldA 13 (.t 1)⟩,
              ⟨some 36, none, .load false 1 (.t 35)⟩,
              ⟨some 37, none, .call 40 [.t 36]⟩,
              ⟨some 38, none, .bin .neq (.t 34) (.t 37)⟩])
            (.keep [38]
             (.cond (.t 38)
              (.seq
               (.ops [⟨some 2, none, .mv (.k (.int .i64 5))⟩])
               .ret)
              .skip)))
           (.keep []
            (.seq
             (.ops [⟨some 2, none, .mv (.k (.int .i64 0))⟩])
             .ret)))))))))))) }
structure N42 (R : Env) : Prop where
  o42 : R.Fn 42 c42
  n38 : N38 R
  n40 : N40 R
/-- umbra.umbraref12.Encode -/
def c46 : IFn := { np := 1, rs := [.t 2, .t 3], body :=
 (.seq
  (.ops [⟨some 1, none, .box 2 (.t 0)⟩,
    ⟨some 2, none, .mv (.k (.nils))⟩,
    ⟨some 3, none, .mv (.k (.int .i64 0))⟩])
  (.seq
   (.seq
    (.ops [⟨some 8, none, .load true 15 (.t 1)⟩,
      ⟨some 9, none, .call 42 [.t 8]⟩,
      ⟨some 4, none, .mv (.t 9)⟩])
    (.seq
     (.ops [⟨some 10, none, .mv (.t 4)⟩,
       ⟨some 11, none, .bin .neq (.t 10) (.k (.int .i64 0))⟩])
     (.cond (.t 11)
      (.seq
       (.ops [⟨some 12, none, .mv (.t 4)⟩,
         ⟨some 2, none, .mv (.k (.nils))⟩,
         ⟨some 3, none, .mv (.t 12)⟩])
       .ret)
      .skip)))
   (.keep [1]
    (.seq
     (.ops [⟨some 14, none, .fldA 0 (.t 1)⟩,
       ⟨some 15, none, .load false 1 (.t 14)⟩,
       ⟨some 16, none, .bslice 6 1 1 [.int .u64 0] [(0, .t 15)]⟩,
       ⟨some 17, none, .call 55 [.k (.nils), .k (.int .i64 8), .t 16]⟩,
       ⟨some 13, none, .mv (.t 17)⟩,
       ⟨some 18, none, .ext (.t 13) 0⟩,
       ⟨some 19, none, .ext (.t 13) 1⟩,
       ⟨some 5, none, .mv (.t 18)⟩,
       ⟨some 6, none, .mv (.t 19)⟩])
     (.keep [1, 5]
      (.seq
       (.ops [⟨some 21, none, .mv (.t 5)⟩,
         ⟨some 22, none, .fldA 1 (.t 1)⟩,
         ⟨some 23, none, .load false 1 (.t 22)⟩,
         ⟨some 24, none, .conv .u64 (.t 23)⟩,
         ⟨some 25, none, .bslice 6 1 1 [.int .u64 0] [(0, .t 24)]⟩,
         ⟨some 26, none, .call 55 [.t 21, .k (.int .i64 1), .t 25]⟩,
         ⟨some 20, none, .mv (.t 26)⟩,
         ⟨some 27, none, .ext (.t 20) 0⟩,
         ⟨some 28, none, .ext (.t 20) 1⟩,
         ⟨some 5, none, .mv (.t 27)⟩])
       (.keep [1, 5]
        (.seq
         (.ops [⟨some 30, none, .mv (.t 5)⟩,
           ⟨some 31, none, .fldA 2 (.t 1)⟩,
           ⟨some 32, none, .load false 1 (.t 31)⟩,
           ⟨some 33, none, .conv .u64 (.t 32)⟩,
           ⟨some 34, none, .bslice 6 1 1 [.int .u64 0] [(0, .t 33)]⟩,
           ⟨some 35, none, .call 55 [.t 30, .k (.int .i64 4), .t 34]⟩,
           ⟨some 29, none, .mv (.t 35)⟩,
           ⟨some 36, none, .ext (.t 29) 0⟩,
           ⟨some 37, none, .ext (.t 29) 1⟩,
           ⟨some 5, none, .mv (.t 36)⟩])
         (.keep [1, 5]
          (.seq
           (.seq
            (.ops [⟨some 7, none, .mv (.k (.int .i64 0))⟩])
            (.keep [1, 5, 7]
             (.block 0
              (.loop
               (.seq
                (.seq
                 (.ops [⟨some 38, none, .mv (.t 7)⟩,
                   ⟨some 39, none, .bin .lss (.t 38) (.k (.int .i64 8))⟩])
                 (.cond (.t 39)
                  .skip
                  (.exit 0)))
                (.keep [1, 5, 7]
                 (.seq
                  (.block 1
                   (.ops [⟨some 42, none, .mv (.t 5)⟩,
                     ⟨some 43, none, .mv (.t 7)⟩,
                     ⟨some 44, none, .fldA 3 (.t 1)⟩,
                     ⟨some 45, none, .idxA 8 1 (.t 44) (.t 43)⟩,
                     ⟨some 46, none, .load false 1 (.t 45)⟩,
                     ⟨some 47, none, .bslice 4 1 1 [.int .u8 0] [(0, .t 46)]⟩,
                     ⟨some 48, none, .app 4 1 (.t 42) (.t 47)⟩,
                     ⟨some 5, none, .mv (.t 48)⟩]))
                  (.keep [1, 5, 7]
                   (.ops [⟨some 40, none, .mv (.t 7)⟩,
                     ⟨some 41, none, .bin .add (.t 40) (.k (.int .i64 1))⟩,
                     ⟨some 7, none, .mv (.t 41)⟩])))))))))
           (.keep [1, 5]
            (.seq
             (.ops [⟨some 50, none, .mv (.t 5)⟩,
               ⟨some 51, none, .fldA 11 (.t 1)⟩,
               ⟨some 52, none, .load false 1 (.t 51)⟩,
               ⟨some 53, none, .conv .u64 (.t 52)⟩,
               ⟨some 54, none, .fldA 12 (.t 1)⟩,
               ⟨some 55, none, .load false 1 (.t 54)⟩,
               ⟨some 56, none, .conv .u64 (.t 55)⟩,
               ⟨some 57, none, .fldA 13 (.t 1)⟩,
               ⟨some 58, none, .load false 1 (.t 57)⟩,
               ⟨some 59, none, .conv .u64 (.t 58)⟩,
               ⟨some 60, none, .bslice 6 1 3 [.int .u64 0] [(0, .t 53), (1, .t 56), (2, .t 59)]⟩,
               ⟨some 61, none, .call 55 [.t 50, .k (.int .i64 4), .t 60]⟩,
               ⟨some 49, none, .mv (.t 61)⟩,
               ⟨some 62, none, .ext (.t 49) 0⟩,
               ⟨some 63, none, .ext (.t 49) 1⟩,
               ⟨some 5, none, .mv (.t 62)⟩])
             (.keep [1, 5]
              (.seq
               (.ops [⟨some 65, none, .mv (.t 5)⟩,
                 ⟨some 66, none, .fldA 14 (.t 1)⟩,
                 ⟨some 67, none, .load false 1 (.t 66)⟩,
                 ⟨some 68, none, .conv .u64 (.t 67)⟩,
                 ⟨some 69, none, .bslice 6 1 1 [.int .u64 0] [(0, .t 68)]⟩,
                 ⟨some 70, none, .call 55 [.t 65, .k (.int .i64 2), .t 69]⟩,
                 ⟨some 64, none, .mv (.t 70)⟩,
                 ⟨some 71, none, .ext (.t 64) 0⟩,
                 ⟨some 72, none, .ext (.t 64) 1⟩,
                 ⟨some 5, none, .mv (.t 71)⟩])
               (.keep [5]
                (.seq
                 (.ops [⟨some 73, none, .mv (.t 5)⟩,
                   ⟨some 2, none, .mv (.t 73)⟩,
                   ⟨some 3, none, .mv (.k (.int .i64 0))⟩])
                 .ret)))))))))))))))) }
structure N46 (R : Env) : Prop where
  o46 : R.Fn 46 c46
  n42 : N42 R
  n55 : N55 R
/-- umbra.umbraref12.Decode -/
def c50 : IFn := { np := 1, rs := [.cell 2 true 15, .t 3], body :=
 (.seq
  (.ops [⟨some 2, none, .alloc 2 [.int .u64 0, .int .i64 0, .int .u32 0, .int .u8 0, .int .u8 0, .int .u8 0, .int .u8 0, .int .u8 0, .int .u8 0, .int .u8 0, .int .u8 0, .int .u32 0, .int .u32 0, .int .i64 0, .int .i64 0]⟩,
    ⟨some 3, none, .mv (.k (.int .i64 0))⟩])
  (.seq
   (.seq
    (.ops [⟨some 8, none, .mv (.t 0)⟩,
      ⟨some 9, none, .lenS (.t 8)⟩,
      ⟨some 10, none, .bin .lss (.t 9) (.k (.int .i64 35))⟩])
    (.cond (.t 10)
     (.seq
      (.ops [⟨some 11, none, .build [.int .u64 0, .int .i64 0, .int .u32 0, .int .u8 0, .int .u8 0, .int .u8 0, .int .u8 0, .int .u8 0, .int .u8 0, .int .u8 0, .int .u8 0, .int .u32 0, .int .u32 0, .int .i64 0, .int .i64 0] []⟩,
        ⟨none, none, .store 15 (.t 2) (.t 11)⟩,
        ⟨some 3, none, .mv (.k (.int .i64 4))⟩])
      .ret)
     .skip))
   (.keep [0, 2]
    (.seq
     (.seq
      (.ops [⟨some 12, none, .mv (.t 0)⟩,
        ⟨some 13, none, .lenS (.t 12)⟩,
        ⟨some 14, none, .bin .gtr (.t 13) (.k (.int .i64 35))⟩])
      (.cond (.t 14)
       (.seq
        (.ops [⟨some 15, none, .build [.int .u64 0, .int .i64 0, .int .u32 0, .int .u8 0, .int .u8 0, .int .u8 0, .int .u8 0, .int .u8 0, .int .u8 0, .int .u8 0, .int .u8 0, .int .u32 0, .int .u32 0, .int .i64 0, .int .i64 0] []⟩,
          ⟨none, none, .store 15 (.t 2) (.t 15)⟩,
          ⟨some 3, none, .mv (.k (.int .i64 5))⟩])
        .ret)
       .skip))
     (.keep [0, 2]
      (.seq
       (.ops [⟨some 16, none, .mv (.t 0)⟩,
         ⟨some 17, none, .build [.nils, .int .i64 0, .int .i64 0] [(0, 1, .t 16)]⟩,
         ⟨some 18, none, .box 8 (.t 17)⟩,
         ⟨some 4, none, .mv (.t 18)⟩])
       (.seq
        (.ops [⟨some 19, none, .mv (.t 4)⟩,
          ⟨some 20, none, .call 61 [.t 19, .k (.int .i64 8)]⟩,
          ⟨some 21, none, .mv (.t 4)⟩,
          ⟨some 22, none, .call 61 [.t 21, .k (.int .i64 1)]⟩,
          ⟨some 23, none, .conv .i64 (.t 22)⟩,
          ⟨some 24, none, .mv (.t 4)⟩,
          ⟨some 25, none, .call 61 [.t 24, .k (.int .i64 4)]⟩,
          ⟨some 26, none, .conv .u32 (.t 25)⟩,
          ⟨some 27, none, .build [.int .u64 0, .int .i64 0, .int .u32 0, .int .u8 0, .int .u8 0, .int .u8 0, .int .u8 0, .int .u8 0, .int .u8 0, .int .u8 0, .int .u8 0, .int .u32 0, .int .u32 0, .int .i64 0, .int .i64 0] [(0, 1, .t 20), (1, 1, .t 23), (2, 1, .t 26)]⟩,
          ⟨some 5, none, .alloc 2 [.int .u64 0, .int .i64 0, .int .u32 0, .int .u8 0, .int .u8 0, .int .u8 0, .int .u8 0, .int .u8 0, .int .u8 0, .int .u8 0, .int .u8 0, .int .u32 0, .int .u32 0, .int .i64 0, .int .i64 0]⟩,
          ⟨none, none, .store 15 (.t 5) (.t 27)⟩])
        (.keep [2, 4, 5]
         (.seq
          (.seq
           (.ops [⟨some 6, none, .mv (.k (.int .i64 0))⟩])
           (.keep [2, 4, 5, 6]
            (.block 0
             (.loop
              (.seq
               (.seq
                (.ops [⟨some 28, none, .mv (.t 6)⟩,
                  ⟨some 29, none, .bin .lss (.t 28) (.k (.int .i64 8))⟩])
                (.cond (.t 29)
                 .skip
                 (.exit 0)))
               (.keep [2, 4, 5, 6]
                (.seq
                 (.block 1
                  (.ops [⟨some 32, none, .mv (.t 6)⟩,
                    ⟨some 33, none, .mv (.t 4)⟩,
                    ⟨some 34, none, .call 61 [.t 33, .k (.int .i64 1)]⟩,
                    ⟨some 35, none, .conv .u8 (.t 34)⟩,
                    ⟨some 36, none, .fldA 3 (.t 5)⟩,
                    ⟨some 37, none, .idxA 8 1 (.t 36) (.t 32)⟩,
                    ⟨none, none, .store 1 (.t 37) (.t 35)⟩]))
                 (.keep [2, 4, 5, 6]
                  (.ops [⟨some 30, none, .mv (.t 6)⟩,
                    ⟨some 31, none, .bin .add (.t 30) (.k (.int .i64 1))⟩,
                    ⟨some 6, none, .mv (.t 31)⟩])))))))))
          (.keep [2, 4, 5]
           (.seq
            (.ops [⟨some 38, none, .mv (.t 4)⟩,
              ⟨some 39, none, .call 61 [.t 38, .k (.int .i64 4)]⟩,
              ⟨some 40, none, .conv .u32 (.t 39)⟩,
              ⟨some 41, none, .fldA 11 (.t 5)⟩,
              ⟨none, none, .store 1 (.t 41) (.t 40)⟩])
            (.keep [2, 4, 5]
             (.seq
              (.ops [⟨some 42, none, .mv (.t 4)⟩,
                ⟨some 43, none, .call 61 [.t 42, .k (.int .i64 4)]⟩,
                ⟨some 44, none, .conv .u32 (.t 43)⟩,
                ⟨some 45, none, .fldA 12 (.t 5)⟩,
                ⟨none, none, .store 1 (.t 45) (.t 44)⟩])
              (.keep [2, 4, 5]
               (.seq
                (.ops [⟨some 46, none, .mv (.t 4)⟩,
                  ⟨some 47, none, .call 61 [.t 46, .k (.int .i64 4)]⟩,
                  ⟨some 48, none, .conv .i64 (.t 47)⟩,
                  ⟨some 49, none, .fldA 13 (.t 5)⟩,
                  ⟨none, none, .store 1 (.t 49) (.t 48)⟩])
                (.keep [2, 4, 5]
                 (.seq
                  (.ops [⟨some 50, none, .mv (.t 4)⟩,
                    ⟨some 51, none, .call 61 [.t 50, .k (.int .i64 2)]⟩,
                    ⟨some 52, none, .conv .i64 (.t 51)⟩,
                    ⟨some 53, none, .fldA 14 (.t 5)⟩,
                    ⟨none, none, .store 1 (.t 53) (.t 52)⟩])
                  (.keep [2, 5]
                   (.seq
                    (.seq
                     (.ops [⟨some 54, none, .load true 15 (.t 5)⟩,
                       ⟨some 55, none, .call 42 [.t 54]⟩,
                       ⟨some 7, none, .mv (.t 55)⟩])
                     (.seq
                      (.ops [⟨some 56, none, .mv (.t 7)⟩,
                        ⟨some 57, none, .bin .neq (.t 56) (.k (.int .i64 0))⟩])
                      (.cond (.t 57)
                       (.seq
                        (.ops [⟨some 58, none, .build [.int .u64 0, .int .i64 0, .int .u32 0, .int .u8 0, .int .u8 0, .int .u8 0, .int .u8 0, .int .u8 0, .int .u8 0, .int .u8 0, .int .u8 0, .int .u32 0, .int .u32 0, .int .i64 0, .int .i64 0] []⟩,
                          ⟨some 59, none, .mv (.t 7)⟩,
                          ⟨none, none, .store 15 (.t 2) (.t 58)⟩,
                          ⟨some 3, none, .mv (.t 59)⟩])
                        .ret)
                       .skip)))
                    (.keep [2, 5]
                     (.seq
                      (.ops [⟨some 60, none, .load true 15 (.t 5)⟩,
                        ⟨none, none, .store 15 (.t 2) (.t 60)⟩,
                        ⟨some 3, none, .mv (.k (.int .i64 0))⟩])
                      .ret))))))))))))))))))))) }
structure N50 (R : Env) : Prop where
  o50 : R.Fn 50 c50
  n42 : N42 R
  n61 : N61 R
end Go.UM

/- The resolved code of package umbralaw12, function by function; numbers are those of the register, the same for all programs. -/



namespace Go.UM
open Go.AM
/-- umbra.umbralaw12.works -/
def c43 : IFn := { np := 0, rs := [.t 0], body :=
 (.seq
  (.ops [⟨some 0, none, .mv (.k (.bool false))⟩])
  (.seq
   (.ops [⟨some 1, none, .build [.int .u64 0, .int .i64 0, .int .u32 0, .int .u8 0, .int .u8 0, .int .u8 0, .int .u8 0, .int .u8 0, .int .u8 0, .int .u8 0, .int .u8 0, .int .u32 0, .int .u32 0, .int .i64 0, .int .i64 0] [(1, 1, .k (.int .i64 4)), (13, 1, .k (.int .i64 40)), (14, 1, .k (.int .i64 1))]⟩,
     ⟨some 2, none, .call 41 [.t 1]⟩,
     ⟨some 3, none, .bin .eql (.t 2) (.k (.int .i64 0))⟩,
     ⟨some 4, none, .mv (.t 3)⟩,
     ⟨some 5, some (4, true), .build [.int .u64 0, .int .i64 0, .int .u32 0, .int .u8 0, .int .u8 0, .int .u8 0, .int .u8 0, .int .u8 0, .int .u8 0, .int .u8 0, .int .u8 0, .int .u32 0, .int .u32 0, .int .i64 0, .int .i64 0] [(1, 1, .k (.int .i64 4)), (13, 1, .k (.int .i64 65)), (14, 1, .k (.int .i64 1))]⟩,
     ⟨some 6, some (4, true), .call 41 [.t 5]⟩,
     ⟨some 7, some (4, true), .bin .eql (.t 6) (.k (.int .i64 9))⟩,
     ⟨some 8, none, .pick (.t 4) (.t 7) (.k (.bool false))⟩,
     ⟨some 9, none, .mv (.t 8)⟩,
     ⟨some 10, some (9, true), .call 39 [.k (.int .i64 257)]⟩,
     ⟨some 11, some (9, true), .bin .eql (.t 10) (.k (.int .i64 2))⟩,
     ⟨some 12, none, .pick (.t 9) (.t 11) (.k (.bool false))⟩,
     ⟨some 13, none, .mv (.t 12)⟩,
     ⟨some 14, some (13, true), .call 52 []⟩,
     ⟨some 15, some (13, true), .bin .eql (.t 14) (.k (.int .i64 35))⟩,
     ⟨some 16, none, .pick (.t 13) (.t 15) (.k (.bool false))⟩,
     ⟨some 0, none, .mv (.t 16)⟩])
   (.keep [0]
    .ret))) }
structure N43 (R : Env) : Prop where
  o43 : R.Fn 43 c43
  n39 : N39 R
  n41 : N41 R
  n52 : N52 R
/-- umbra.umbralaw12.ManifestChecks -/
def c36 : IFn := { np := 2, rs := [.t 4], body :=
 (.seq
  (.ops [⟨some 2, none, .box 2 (.t 0)⟩,
    ⟨some 4, none, .mv (.k (.bool false))⟩])
  (.seq
   (.draw [0, 1, 0, 7, 15, 31, 63, 127, 63, 511, 1023, 2047, 4095, 8191, 16383, 8191, 65535, 131071, 262143, 524287, 1048575, 2097151, 4194303] [[1], [5], [1], [7], [6, 8], [9], [1], [11], [1], [13], [12, 14], [10, 15], [16], [2], [18], [2], [20], [19, 21], [17, 22], [23], [], [24, 25], [26]] [⟨some 5, none, .mv (.t 1)⟩,
     ⟨some 6, none, .call 37 [.t 5]⟩,
     ⟨some 7, none, .mv (.t 1)⟩,
     ⟨some 8, none, .call 38 [.t 7]⟩,
     ⟨some 9, none, .bin .eql (.t 6) (.t 8)⟩,
     ⟨some 10, none, .mv (.t 9)⟩,
     ⟨some 11, some (10, true), .mv (.t 1)⟩,
     ⟨some 12, some (10, true), .call 39 [.t 11]⟩,
     ⟨some 13, some (10, true), .mv (.t 1)⟩,
     ⟨some 14, some (10, true), .call 40 [.t 13]⟩,
     ⟨some 15, some (10, true), .bin .eql (.t 12) (.t 14)⟩,
     ⟨some 16, none, .pick (.t 10) (.t 15) (.k (.bool false))⟩,
     ⟨some 17, none, .mv (.t 16)⟩,
     ⟨some 18, some (17, true), .load true 15 (.t 2)⟩,
     ⟨some 19, some (17, true), .call 41 [.t 18]⟩,
     ⟨some 20, some (17, true), .load true 15 (.t 2)⟩,
     ⟨some 21, some (17, true), .call 42 [.t 20]⟩,
     ⟨some 22, some (17, true), .bin .eql (.t 19) (.t 21)⟩,
     ⟨some 23, none, .pick (.t 17) (.t 22) (.k (.bool false))⟩,
     ⟨some 24, none, .mv (.t 23)⟩,
     ⟨some 25, some (24, true), .call 43 []⟩,
     ⟨some 26, none, .pick (.t 24) (.t 25) (.k (.bool false))⟩,
     ⟨some 4, none, .mv (.t 26)⟩])
   (.keep [4]
    .ret))) }
structure N36 (R : Env) : Prop where
  o36 : R.Fn 36 c36
  n37 : N37 R
  n38 : N38 R
  n39 : N39 R
  n40 : N40 R
  n41 : N41 R
  n42 : N42 R
  n43 : N43 R
/-- umbra.umbralaw12.ManifestEncodes -/
def c44 : IFn := { np := 1, rs := [.t 2], body :=
 (.seq
  (.ops [⟨some 1, none, .box 2 (.t 0)⟩,
    ⟨some 2, none, .mv (.k (.bool false))⟩])
  (.seq
   (.ops [⟨some 8, none, .load true 15 (.t 1)⟩,
     ⟨some 9, none, .call 45 [.t 8]⟩,
     ⟨some 7, none, .mv (.t 9)⟩,
     ⟨some 10, none, .ext (.t 7) 0⟩,
     ⟨some 11, none, .ext (.t 7) 1⟩,
     ⟨some 3, none, .mv (.t 10)⟩,
     ⟨some 4, none, .mv (.t 11)⟩])
   (.keep [1, 3, 4]
    (.seq
     (.ops [⟨some 13, none, .load true 15 (.t 1)⟩,
       ⟨some 14, none, .call 46 [.t 13]⟩,
       ⟨some 12, none, .mv (.t 14)⟩,
       ⟨some 15, none, .ext (.t 12) 0⟩,
       ⟨some 16, none, .ext (.t 12) 1⟩,
       ⟨some 5, none, .mv (.t 15)⟩,
       ⟨some 6, none, .mv (.t 16)⟩])
     (.keep [3, 4, 5, 6]
      (.seq
       (.ops [⟨some 17, none, .mv (.t 3)⟩,
         ⟨some 18, none, .mv (.t 5)⟩,
         ⟨some 19, none, .call 47 [.t 17, .t 18]⟩,
         ⟨some 20, none, .mv (.t 19)⟩,
         ⟨some 21, some (20, true), .mv (.t 4)⟩,
         ⟨some 22, some (20, true), .mv (.t 6)⟩,
         ⟨some 23, some (20, true), .bin .eql (.t 21) (.t 22)⟩,
         ⟨some 24, none, .pick (.t 20) (.t 23) (.k (.bool false))⟩,
         ⟨some 25, none, .mv (.t 24)⟩,
         ⟨some 26, some (25, true), .call 43 []⟩,
         ⟨some 27, none, .pick (.t 25) (.t 26) (.k (.bool false))⟩,
         ⟨some 2, none, .mv (.t 27)⟩])
       (.keep [2]
        .ret))))))) }
structure N44 (R : Env) : Prop where
  o44 : R.Fn 44 c44
  n43 : N43 R
  n45 : N45 R
  n46 : N46 R
  n47 : N47 R
/-- umbra.umbralaw12.ManifestDecodes -/
def c48 : IFn := { np := 1, rs := [.t 2], body :=
 (.seq
  (.ops [⟨some 2, none, .mv (.k (.bool false))⟩])
  (.seq
   (.ops [⟨some 7, none, .mv (.t 0)⟩,
     ⟨some 8, none, .mv (.t 0)⟩,
     ⟨some 9, none, .lenS (.t 8)⟩,
     ⟨some 10, none, .mm false [.t 9, .k (.int .i64 60)]⟩,
     ⟨some 11, none, .slcS 4 1 (.t 7) none (some (.t 10)) none⟩,
     ⟨some 0, none, .mv (.t 11)⟩])
   (.keep [0]
    (.seq
     (.ops [⟨some 13, none, .mv (.t 0)⟩,
       ⟨some 14, none, .call 49 [.t 13]⟩,
       ⟨some 12, none, .mv (.t 14)⟩,
       ⟨some 15, none, .ext (.t 12) 0⟩,
       ⟨some 16, none, .ext (.t 12) 1⟩,
       ⟨some 3, none, .alloc 2 [.int .u64 0, .int .i64 0, .int .u32 0, .int .u8 0, .int .u8 0, .int .u8 0, .int .u8 0, .int .u8 0, .int .u8 0, .int .u8 0, .int .u8 0, .int .u32 0, .int .u32 0, .int .i64 0, .int .i64 0]⟩,
       ⟨none, none, .store 15 (.t 3) (.t 15)⟩,
       ⟨some 4, none, .mv (.t 16)⟩])
     (.keep [0, 3, 4]
      (.seq
       (.ops [⟨some 18, none, .mv (.t 0)⟩,
         ⟨some 19, none, .call 50 [.t 18]⟩,
         ⟨some 17, none, .mv (.t 19)⟩,
         ⟨some 20, none, .ext (.t 17) 0⟩,
         ⟨some 21, none, .ext (.t 17) 1⟩,
         ⟨some 5, none, .alloc 2 [.int .u64 0, .int .i64 0, .int .u32 0, .int .u8 0, .int .u8 0, .int .u8 0, .int .u8 0, .int .u8 0, .int .u8 0, .int .u8 0, .int .u8 0, .int .u32 0, .int .u32 0, .int .i64 0, .int .i64 0]⟩,
         ⟨none, none, .store 15 (.t 5) (.t 20)⟩,
         ⟨some 6, none, .mv (.t 21)⟩])
       (.keep [3, 4, 5, 6]
        (.seq
         (.ops [⟨some 22, none, .load true 15 (.t 3)⟩,
           ⟨some 23, none, .load true 15 (.t 5)⟩,
           ⟨some 24, none, .eqa false [.i, .i, .i, .i, .i, .i, .i, .i, .i, .i, .i, .i, .i, .i, .i] (.t 22) (.t 23)⟩,
           ⟨some 25, none, .mv (.t 24)⟩,
           ⟨some 26, some (25, true), .mv (.t 4)⟩,
           ⟨some 27, some (25, true), .mv (.t 6)⟩,
           ⟨some 28, some (25, true), .bin .eql (.t 26) (.t 27)⟩,
           ⟨some 29, none, .pick (.t 25) (.t 28) (.k (.bool false))⟩,
           ⟨some 30, none, .mv (.t 29)⟩,
           ⟨some 31, some (30, true), .call 43 []⟩,
           ⟨some 32, none, .pick (.t 30) (.t 31) (.k (.bool false))⟩,
           ⟨some 2, none, .mv (.t 32)⟩])
         (.keep [2]
          .ret))))))))) }
structure N48 (R : Env) : Prop where
  o48 : R.Fn 48 c48
  n43 : N43 R
  n49 : N49 R
  n50 : N50 R
/-- umbra.umbralaw12.ManifestBack -/
def c51 : IFn := { np := 2, rs := [.t 4], body :=
 (.seq
  (.ops [⟨some 2, none, .box 2 (.t 0)⟩,
    ⟨some 3, none, .box 2 (.t 1)⟩,
    ⟨some 4, none, .mv (.k (.bool false))⟩])
  (.seq
   (.ops [⟨some 12, none, .load true 15 (.t 2)⟩,
     ⟨some 13, none, .call 45 [.t 12]⟩,
     ⟨some 11, none, .mv (.t 13)⟩,
     ⟨some 14, none, .ext (.t 11) 0⟩,
     ⟨some 15, none, .ext (.t 11) 1⟩,
     ⟨some 5, none, .mv (.t 14)⟩,
     ⟨some 6, none, .mv (.t 15)⟩])
   (.keep [2, 3, 5, 6]
    (.seq
     (.seq
      (.ops [⟨some 16, none, .mv (.t 6)⟩,
        ⟨some 17, none, .bin .neq (.t 16) (.k (.int .i64 0))⟩])
      (.cond (.t 17)
       (.seq
        (.ops [⟨some 18, none, .mv (.t 5)⟩,
          ⟨some 19, none, .lenS (.t 18)⟩,
          ⟨some 20, none, .bin .eql (.t 19) (.k (.int .i64 0))⟩,
          ⟨some 21, none, .mv (.t 20)⟩,
          ⟨some 22, some (21, true), .mv (.t 6)⟩,
          ⟨some 23, some (21, true), .load true 15 (.t 2)⟩,
          ⟨some 24, some (21, true), .call 41 [.t 23]⟩,
          ⟨some 25, some (21, true), .bin .eql (.t 22) (.t 24)⟩,
          ⟨some 26, none, .pick (.t 21) (.t 25) (.k (.bool false))⟩,
          ⟨some 27, none, .mv (.t 26)⟩,
          ⟨some 28, some (27, true), .call 43 []⟩,
          ⟨some 29, none, .pick (.t 27) (.t 28) (.k (.bool false))⟩,
          ⟨some 4, none, .mv (.t 29)⟩])
        (.keep [4]
         .ret))
       .skip))
     (.keep [2, 3, 5]
      (.seq
       (.ops [⟨some 31, none, .mv (.t 5)⟩,
         ⟨some 32, none, .call 49 [.t 31]⟩,
         ⟨some 30, none, .mv (.t 32)⟩,
         ⟨some 33, none, .ext (.t 30) 0⟩,
         ⟨some 34, none, .ext (.t 30) 1⟩,
         ⟨some 7, none, .alloc 2 [.int .u64 0, .int .i64 0, .int .u32 0, .int .u8 0, .int .u8 0, .int .u8 0, .int .u8 0, .int .u8 0, .int .u8 0, .int .u8 0, .int .u8 0, .int .u32 0, .int .u32 0, .int .i64 0, .int .i64 0]⟩,
         ⟨none, none, .store 15 (.t 7) (.t 33)⟩,
         ⟨some 8, none, .mv (.t 34)⟩])
       (.keep [2, 3, 5, 7, 8]
        (.seq
         (.seq
          (.ops [⟨some 35, none, .mv (.t 8)⟩,
            ⟨some 36, none, .bin .neq (.t 35) (.k (.int .i64 0))⟩,
            ⟨some 37, none, .mv (.t 36)⟩,
            ⟨some 38, some (37, false), .load true 15 (.t 7)⟩,
            ⟨some 39, some (37, false), .load true 15 (.t 2)⟩,
            ⟨some 40, some (37, false), .eqa true [.i, .i, .i, .i, .i, .i, .i, .i, .i, .i, .i, .i, .i, .i, .i] (.t 38) (.t 39)⟩,
            ⟨some 41, none, .pick (.t 37) (.k (.bool true)) (.t 40)⟩,
            ⟨some 42, none, .mv (.t 41)⟩,
            ⟨some 43, some (42, false), .mv (.t 5)⟩,
            ⟨some 44, some (42, false), .lenS (.t 43)⟩,
            ⟨some 45, some (42, false), .call 52 []⟩,
            ⟨some 46, some (42, false), .bin .neq (.t 44) (.t 45)⟩,
            ⟨some 47, none, .pick (.t 42) (.k (.bool true)) (.t 46)⟩])
          (.keep [2, 3, 5, 47]
           (.cond (.t 47)
            (.seq
             (.ops [⟨some 4, none, .mv (.k (.bool false))⟩])
             .ret)
            .skip)))
         (.keep [2, 3, 5]
          (.seq
           (.ops [⟨some 49, none, .load true 15 (.t 3)⟩,
             ⟨some 50, none, .call 45 [.t 49]⟩,
             ⟨some 48, none, .mv (.t 50)⟩,
             ⟨some 51, none, .ext (.t 48) 0⟩,
             ⟨some 52, none, .ext (.t 48) 1⟩,
             ⟨some 9, none, .mv (.t 51)⟩,
             ⟨some 10, none, .mv (.t 52)⟩])
           (.keep [2, 3, 5, 9, 10]
            (.seq
             (.draw [0, 1, 3, 7, 7, 31, 7, 7, 199, 511, 1023, 2047, 4095, 8191, 16383] [[10], [53], [54], [5], [9], [56, 57], [2], [3], [59, 60], [58, 61], [55, 62], [63], [], [64, 65], [66]] [⟨some 53, none, .mv (.t 10)⟩,
               ⟨some 54, none, .bin .neq (.t 53) (.k (.int .i64 0))⟩,
               ⟨some 55, none, .mv (.t 54)⟩,
               ⟨some 56, some (55, false), .mv (.t 5)⟩,
               ⟨some 57, some (55, false), .mv (.t 9)⟩,
               ⟨some 58, some (55, false), .call 47 [.t 56, .t 57]⟩,
               ⟨some 59, some (55, false), .load true 15 (.t 2)⟩,
               ⟨some 60, some (55, false), .load true 15 (.t 3)⟩,
               ⟨some 61, some (55, false), .eqa false [.i, .i, .i, .i, .i, .i, .i, .i, .i, .i, .i, .i, .i, .i, .i] (.t 59) (.t 60)⟩,
               ⟨some 62, some (55, false), .eqb false (.t 58) (.t 61)⟩,
               ⟨some 63, none, .pick (.t 55) (.k (.bool true)) (.t 62)⟩,
               ⟨some 64, none, .mv (.t 63)⟩,
               ⟨some 65, some (64, true), .call 43 []⟩,
               ⟨some 66, none, .pick (.t 64) (.t 65) (.k (.bool false))⟩,
               ⟨some 4, none, .mv (.t 66)⟩])
             (.keep [4]
              .ret))))))))))))) }
structure N51 (R : Env) : Prop where
  o51 : R.Fn 51 c51
  n41 : N41 R
  n43 : N43 R
  n45 : N45 R
  n47 : N47 R
  n49 : N49 R
  n52 : N52 R
/-- umbra.umbralaw12.ManifestStrict -/
def c53 : IFn := { np := 1, rs := [.t 2], body :=
 (.seq
  (.ops [⟨some 2, none, .mv (.k (.bool false))⟩])
  (.seq
   (.ops [⟨some 7, none, .mv (.t 0)⟩,
     ⟨some 8, none, .mv (.t 0)⟩,
     ⟨some 9, none, .lenS (.t 8)⟩,
     ⟨some 10, none, .mm false [.t 9, .k (.int .i64 60)]⟩,
     ⟨some 11, none, .slcS 4 1 (.t 7) none (some (.t 10)) none⟩,
     ⟨some 0, none, .mv (.t 11)⟩])
   (.keep [0]
    (.seq
     (.ops [⟨some 13, none, .mv (.t 0)⟩,
       ⟨some 14, none, .call 49 [.t 13]⟩,
       ⟨some 12, none, .mv (.t 14)⟩,
       ⟨some 15, none, .ext (.t 12) 0⟩,
       ⟨some 16, none, .ext (.t 12) 1⟩,
       ⟨some 3, none, .alloc 2 [.int .u64 0, .int .i64 0, .int .u32 0, .int .u8 0, .int .u8 0, .int .u8 0, .int .u8 0, .int .u8 0, .int .u8 0, .int .u8 0, .int .u8 0, .int .u32 0, .int .u32 0, .int .i64 0, .int .i64 0]⟩,
       ⟨none, none, .store 15 (.t 3) (.t 15)⟩,
       ⟨some 4, none, .mv (.t 16)⟩])
     (.keep [0, 3, 4]
      (.seq
       (.seq
        (.ops [⟨some 17, none, .mv (.t 4)⟩,
          ⟨some 18, none, .bin .neq (.t 17) (.k (.int .i64 0))⟩])
        (.cond (.t 18)
         (.seq
          (.ops [⟨some 19, none, .load true 15 (.t 3)⟩,
            ⟨some 20, none, .build [.int .u64 0, .int .i64 0, .int .u32 0, .int .u8 0, .int .u8 0, .int .u8 0, .int .u8 0, .int .u8 0, .int .u8 0, .int .u8 0, .int .u8 0, .int .u32 0, .int .u32 0, .int .i64 0, .int .i64 0] []⟩,
            ⟨some 21, none, .eqa false [.i, .i, .i, .i, .i, .i, .i, .i, .i, .i, .i, .i, .i, .i, .i] (.t 19) (.t 20)⟩,
            ⟨some 22, none, .mv (.t 21)⟩,
            ⟨some 23, some (22, true), .call 43 []⟩,
            ⟨some 24, none, .pick (.t 22) (.t 23) (.k (.bool false))⟩,
            ⟨some 2, none, .mv (.t 24)⟩])
          (.keep [2]
           .ret))
         .skip))
       (.keep [0, 3]
        (.seq
         (.ops [⟨some 26, none, .load true 15 (.t 3)⟩,
           ⟨some 27, none, .call 45 [.t 26]⟩,
           ⟨some 25, none, .mv (.t 27)⟩,
           ⟨some 28, none, .ext (.t 25) 0⟩,
           ⟨some 29, none, .ext (.t 25) 1⟩,
           ⟨some 5, none, .mv (.t 28)⟩,
           ⟨some 6, none, .mv (.t 29)⟩])
         (.keep [0, 5, 6]
          (.seq
           (.ops [⟨some 30, none, .mv (.t 6)⟩,
             ⟨some 31, none, .bin .eql (.t 30) (.k (.int .i64 0))⟩,
             ⟨some 32, none, .mv (.t 31)⟩,
             ⟨some 33, some (32, true), .mv (.t 0)⟩,
             ⟨some 34, some (32, true), .mv (.t 5)⟩,
             ⟨some 35, some (32, true), .call 47 [.t 33, .t 34]⟩,
             ⟨some 36, none, .pick (.t 32) (.t 35) (.k (.bool false))⟩,
             ⟨some 37, none, .mv (.t 36)⟩,
             ⟨some 38, some (37, true), .call 43 []⟩,
             ⟨some 39, none, .pick (.t 37) (.t 38) (.k (.bool false))⟩,
             ⟨some 2, none, .mv (.t 39)⟩])
           (.keep [2]
            .ret))))))))))) }
structure N53 (R : Env) : Prop where
  o53 : R.Fn 53 c53
  n43 : N43 R
  n45 : N45 R
  n47 : N47 R
  n49 : N49 R
end Go.UM

/- What the program's own structs are, as rows of cells. -/

namespace Go.UM
open Go.AM

/-- A manifest. -/
structure Mf where
  (id kind label m0 m1 m2 m3 m4 m5 m6 m7 first last size chunks : Int)

def Mf.row (m : Mf) : List AV := [.int .u64 m.id, .int .i64 m.kind, .int .u32 m.label, .int .u8 m.m0, .int .u8 m.m1, .int .u8 m.m2, .int .u8 m.m3, .int .u8 m.m4, .int .u8 m.m5, .int .u8 m.m6, .int .u8 m.m7,
  .int .u32 m.first, .int .u32 m.last, .int .i64 m.size, .int .i64 m.chunks]


def Mf.mask (m : Mf) : Nat → Int
  | 0 => m.m0 | 1 => m.m1 | 2 => m.m2 | 3 => m.m3 | 4 => m.m4 | 5 => m.m5 | 6 => m.m6 | 7 => m.m7 | _ => 0

theorem vix_masks {m : Mf} {i : Nat} {K : AV → Prop} (hi : i < 8) (k : K (.int .u8 (m.mask i))) : VIx false 8 1 [.int .u8 m.m0, .int .u8 m.m1, .int .u8 m.m2, .int .u8 m.m3, .int .u8 m.m4, .int .u8 m.m5, .int .u8 m.m6, .int .u8 m.m7] (i : Int) K := by
  refine ⟨⟨by omega, by omega⟩, ?_⟩
  obtain h | h | h | h | h | h | h | h : i = 0 ∨ i = 1 ∨ i = 2 ∨ i = 3 ∨ i = 4 ∨ i = 5 ∨ i = 6 ∨ i = 7 := by omega
  all_goals subst h; exact k

/-- All numbers are of their kinds. -/
structure Mf.Ok (m : Mf) : Prop where
  id : inI .u64 m.id
  kind : inI .i64 m.kind
  label : inI .u32 m.label
  mask : ∀ i, 0 ≤ m.mask i ∧ m.mask i ≤ 255
  first : inI .u32 m.first
  last : inI .u32 m.last
  size : inI .i64 m.size
  chunks : inI .i64 m.chunks
end Go.UM

/- Package manifest, and the document's: what each function hands back. -/



namespace Go.UM
open Go.AM
set_option maxRecDepth 4000

def cap (k : Int) : Int := if k = 1 then 2048 else if k = 2 then 1024 else if k = 3 ∨ k = 4 then 64 else 0

theorem cap_c {R : Env} (h : N37 R) (k : Int) : R.Pc 37 [.int .i64 k] (.int .i64 (cap k)) :=
  h.o37.enter 60 rfl fun X b hfit hp => by
    repeat ((intro _u; clear _u); first
      | (with_reducible refine acnd_tt ?_)
      | (with_reducible refine acnd_ff ?_)
      | ((with_reducible refine IConf.mk ?_ ?_); · kernel_rfl)
      | (first | (refine aix_n 0 rfl rfl ?_) | (refine aix_n 1 rfl rfl ?_) | (refine aix_n 2 rfl rfl ?_) | (refine aix_n 3 rfl rfl ?_) | (refine aix_n 4 rfl rfl ?_) | (refine aix_n 5 rfl rfl ?_) | (refine aix_n 6 rfl rfl ?_) | (refine aix_n 7 rfl rfl ?_))
      | ((with_reducible refine iwr_in ?_ ?_); · (simp only [inI]; omega))
      | ((with_reducible refine need_i ?_ ?_); · (first | omega | (simp <;> omega))))
    intro _u; clear _u
    refine acnd_i (fun h1 => ?_) (fun h1 => ?_)
    all_goals repeat (first | simp only [decide_eq_true_eq] at h1 | simp only [decide_eq_false_iff_not] at h1 | simp only [beq_iff_eq] at h1 | simp only [bne_iff_ne] at h1 | simp only [beq_eq_false_iff_ne] at h1 | simp only [bne_eq_false_iff_eq] at h1 | simp only [Bool.not_eq_true'] at h1 | simp only [Bool.not_eq_false'] at h1 | simp only [Int.not_lt] at h1 | simp only [Int.not_le] at h1 | simp only [Bool.and_eq_true] at h1 | simp only [Bool.or_eq_true] at h1 | simp only [gt_iff_lt] at h1 | simp only [ge_iff_le] at h1 | simp only [ne_eq] at h1 | simp only [Decidable.not_not] at h1)
    · repeat ((intro _u; clear _u); first
        | (with_reducible refine acnd_tt ?_)
        | (with_reducible refine acnd_ff ?_)
        | ((with_reducible refine IConf.mk ?_ ?_); · kernel_rfl)
        | (first | (refine aix_n 0 rfl rfl ?_) | (refine aix_n 1 rfl rfl ?_) | (refine aix_n 2 rfl rfl ?_) | (refine aix_n 3 rfl rfl ?_) | (refine aix_n 4 rfl rfl ?_) | (refine aix_n 5 rfl rfl ?_) | (refine aix_n 6 rfl rfl ?_) | (refine aix_n 7 rfl rfl ?_))
        | ((with_reducible refine iwr_in ?_ ?_); · (simp only [inI]; omega))
        | ((with_reducible refine need_i ?_ ?_); · (first | omega | (simp <;> omega))))
      intro _u; clear _u
      refine IRet.of ?_
      all_goals repeat' (first | exact True.intro | refine And.intro ?_ ?_ | (intro _u; clear _u) | (with_reducible refine fzEs_same ?_ ?_ ?_) | (with_reducible refine mtEs_same ?_ ?_))
      all_goals first | (with_reducible rfl) | omega | (simp; done) | (simp only [AV.namesL, AV.names, List.append_nil]; done) | (simp [AV.namesL]; done) | (simp [AV.namesL, AV.names]; done) | exact Or.inl (by decide) | (refine Or.inr ?_; (simp [AV.namesL, AV.names]; done)) | (refine Or.inr ?_; (simp [or_imp, forall_and, AV.namesL, AV.names]; done)) | skip
      simp [cap]; omega
    · repeat ((intro _u; clear _u); first
        | (with_reducible refine acnd_tt ?_)
        | (with_reducible refine acnd_ff ?_)
        | ((with_reducible refine IConf.mk ?_ ?_); · kernel_rfl)
        | (first | (refine aix_n 0 rfl rfl ?_) | (refine aix_n 1 rfl rfl ?_) | (refine aix_n 2 rfl rfl ?_) | (refine aix_n 3 rfl rfl ?_) | (refine aix_n 4 rfl rfl ?_) | (refine aix_n 5 rfl rfl ?_) | (refine aix_n 6 rfl rfl ?_) | (refine aix_n 7 rfl rfl ?_))
        | ((with_reducible refine iwr_in ?_ ?_); · (simp only [inI]; omega))
        | ((with_reducible refine need_i ?_ ?_); · (first | omega | (simp <;> omega))))
      intro _u; clear _u
      refine acnd_i (fun h2 => ?_) (fun h2 => ?_)
      all_goals repeat (first | simp only [decide_eq_true_eq] at h2 | simp only [decide_eq_false_iff_not] at h2 | simp only [beq_iff_eq] at h2 | simp only [bne_iff_ne] at h2 | simp only [beq_eq_false_iff_ne] at h2 | simp only [bne_eq_false_iff_eq] at h2 | simp only [Bool.not_eq_true'] at h2 | simp only [Bool.not_eq_false'] at h2 | simp only [Int.not_lt] at h2 | simp only [Int.not_le] at h2 | simp only [Bool.and_eq_true] at h2 | simp only [Bool.or_eq_true] at h2 | simp only [gt_iff_lt] at h2 | simp only [ge_iff_le] at h2 | simp only [ne_eq] at h2 | simp only [Decidable.not_not] at h2)
      · repeat ((intro _u; clear _u); first
          | (with_reducible refine acnd_tt ?_)
          | (with_reducible refine acnd_ff ?_)
          | ((with_reducible refine IConf.mk ?_ ?_); · kernel_rfl)
          | (first | (refine aix_n 0 rfl rfl ?_) | (refine aix_n 1 rfl rfl ?_) | (refine aix_n 2 rfl rfl ?_) | (refine aix_n 3 rfl rfl ?_) | (refine aix_n 4 rfl rfl ?_) | (refine aix_n 5 rfl rfl ?_) | (refine aix_n 6 rfl rfl ?_) | (refine aix_n 7 rfl rfl ?_))
          | ((with_reducible refine iwr_in ?_ ?_); · (simp only [inI]; omega))
          | ((with_reducible refine need_i ?_ ?_); · (first | omega | (simp <;> omega))))
        intro _u; clear _u
        refine IRet.of ?_
        all_goals repeat' (first | exact True.intro | refine And.intro ?_ ?_ | (intro _u; clear _u) | (with_reducible refine fzEs_same ?_ ?_ ?_) | (with_reducible refine mtEs_same ?_ ?_))
        all_goals first | (with_reducible rfl) | omega | (simp; done) | (simp only [AV.namesL, AV.names, List.append_nil]; done) | (simp [AV.namesL]; done) | (simp [AV.namesL, AV.names]; done) | exact Or.inl (by decide) | (refine Or.inr ?_; (simp [AV.namesL, AV.names]; done)) | (refine Or.inr ?_; (simp [or_imp, forall_and, AV.namesL, AV.names]; done)) | skip
        simp [cap]; omega
      · repeat ((intro _u; clear _u); first
          | (with_reducible refine acnd_tt ?_)
          | (with_reducible refine acnd_ff ?_)
          | ((with_reducible refine IConf.mk ?_ ?_); · kernel_rfl)
          | (first | (refine aix_n 0 rfl rfl ?_) | (refine aix_n 1 rfl rfl ?_) | (refine aix_n 2 rfl rfl ?_) | (refine aix_n 3 rfl rfl ?_) | (refine aix_n 4 rfl rfl ?_) | (refine aix_n 5 rfl rfl ?_) | (refine aix_n 6 rfl rfl ?_) | (refine aix_n 7 rfl rfl ?_))
          | ((with_reducible refine iwr_in ?_ ?_); · (simp only [inI]; omega))
          | ((with_reducible refine need_i ?_ ?_); · (first | omega | (simp <;> omega))))
        obtain h3 | h3 | h3 | h3 | h3 : k = 0 ∨ k = 1 ∨ k = 2 ∨ k = 3 ∨ k = 4 := by omega
        all_goals subst h3
        · repeat ((intro _u; clear _u); first
            | (with_reducible refine acnd_tt ?_)
            | (with_reducible refine acnd_ff ?_)
            | ((with_reducible refine IConf.mk ?_ ?_); · kernel_rfl)
            | (first | (refine aix_n 0 rfl rfl ?_) | (refine aix_n 1 rfl rfl ?_) | (refine aix_n 2 rfl rfl ?_) | (refine aix_n 3 rfl rfl ?_) | (refine aix_n 4 rfl rfl ?_) | (refine aix_n 5 rfl rfl ?_) | (refine aix_n 6 rfl rfl ?_) | (refine aix_n 7 rfl rfl ?_))
            | ((with_reducible refine iwr_in ?_ ?_); · (simp only [inI]; omega))
            | ((with_reducible refine need_i ?_ ?_); · (first | omega | (simp <;> omega))))
          intro _u; clear _u
          refine IRet.of ?_
          all_goals repeat' (first | exact True.intro | refine And.intro ?_ ?_ | (intro _u; clear _u) | (with_reducible refine fzEs_same ?_ ?_ ?_) | (with_reducible refine mtEs_same ?_ ?_))
          all_goals first | (with_reducible rfl) | omega | (simp; done) | (simp only [AV.namesL, AV.names, List.append_nil]; done) | (simp [AV.namesL]; done) | (simp [AV.namesL, AV.names]; done) | exact Or.inl (by decide) | (refine Or.inr ?_; (simp [AV.namesL, AV.names]; done)) | (refine Or.inr ?_; (simp [or_imp, forall_and, AV.namesL, AV.names]; done)) | skip
          rfl
        · repeat ((intro _u; clear _u); first
            | (with_reducible refine acnd_tt ?_)
            | (with_reducible refine acnd_ff ?_)
            | ((with_reducible refine IConf.mk ?_ ?_); · kernel_rfl)
            | (first | (refine aix_n 0 rfl rfl ?_) | (refine aix_n 1 rfl rfl ?_) | (refine aix_n 2 rfl rfl ?_) | (refine aix_n 3 rfl rfl ?_) | (refine aix_n 4 rfl rfl ?_) | (refine aix_n 5 rfl rfl ?_) | (refine aix_n 6 rfl rfl ?_) | (refine aix_n 7 rfl rfl ?_))
            | ((with_reducible refine iwr_in ?_ ?_); · (simp only [inI]; omega))
            | ((with_reducible refine need_i ?_ ?_); · (first | omega | (simp <;> omega))))
          intro _u; clear _u
          refine IRet.of ?_
          all_goals repeat' (first | exact True.intro | refine And.intro ?_ ?_ | (intro _u; clear _u) | (with_reducible refine fzEs_same ?_ ?_ ?_) | (with_reducible refine mtEs_same ?_ ?_))
          all_goals first | (with_reducible rfl) | omega | (simp; done) | (simp only [AV.namesL, AV.names, List.append_nil]; done) | (simp [AV.namesL]; done) | (simp [AV.namesL, AV.names]; done) | exact Or.inl (by decide) | (refine Or.inr ?_; (simp [AV.namesL, AV.names]; done)) | (refine Or.inr ?_; (simp [or_imp, forall_and, AV.namesL, AV.names]; done)) | skip
          rfl
        · repeat ((intro _u; clear _u); first
            | (with_reducible refine acnd_tt ?_)
            | (with_reducible refine acnd_ff ?_)
            | ((with_reducible refine IConf.mk ?_ ?_); · kernel_rfl)
            | (first | (refine aix_n 0 rfl rfl ?_) | (refine aix_n 1 rfl rfl ?_) | (refine aix_n 2 rfl rfl ?_) | (refine aix_n 3 rfl rfl ?_) | (refine aix_n 4 rfl rfl ?_) | (refine aix_n 5 rfl rfl ?_) | (refine aix_n 6 rfl rfl ?_) | (refine aix_n 7 rfl rfl ?_))
            | ((with_reducible refine iwr_in ?_ ?_); · (simp only [inI]; omega))
            | ((with_reducible refine need_i ?_ ?_); · (first | omega | (simp <;> omega))))
          intro _u; clear _u
          refine IRet.of ?_
          all_goals repeat' (first | exact True.intro | refine And.intro ?_ ?_ | (intro _u; clear _u) | (with_reducible refine fzEs_same ?_ ?_ ?_) | (with_reducible refine mtEs_same ?_ ?_))
          all_goals first | (with_reducible rfl) | omega | (simp; done) | (simp only [AV.namesL, AV.names, List.append_nil]; done) | (simp [AV.namesL]; done) | (simp [AV.namesL, AV.names]; done) | exact Or.inl (by decide) | (refine Or.inr ?_; (simp [AV.namesL, AV.names]; done)) | (refine Or.inr ?_; (simp [or_imp, forall_and, AV.namesL, AV.names]; done)) | skip
          rfl
        · repeat ((intro _u; clear _u); first
            | (with_reducible refine acnd_tt ?_)
            | (with_reducible refine acnd_ff ?_)
            | ((with_reducible refine IConf.mk ?_ ?_); · kernel_rfl)
            | (first | (refine aix_n 0 rfl rfl ?_) | (refine aix_n 1 rfl rfl ?_) | (refine aix_n 2 rfl rfl ?_) | (refine aix_n 3 rfl rfl ?_) | (refine aix_n 4 rfl rfl ?_) | (refine aix_n 5 rfl rfl ?_) | (refine aix_n 6 rfl rfl ?_) | (refine aix_n 7 rfl rfl ?_))
            | ((with_reducible refine iwr_in ?_ ?_); · (simp only [inI]; omega))
            | ((with_reducible refine need_i ?_ ?_); · (first | omega | (simp <;> omega))))
          intro _u; clear _u
          refine IRet.of ?_
          all_goals repeat' (first | exact True.intro | refine And.intro ?_ ?_ | (intro _u; clear _u) | (with_reducible refine fzEs_same ?_ ?_ ?_) | (with_reducible refine mtEs_same ?_ ?_))
          all_goals first | (with_reducible rfl) | omega | (simp; done) | (simp only [AV.namesL, AV.names, List.append_nil]; done) | (simp [AV.namesL]; done) | (simp [AV.namesL, AV.names]; done) | exact Or.inl (by decide) | (refine Or.inr ?_; (simp [AV.namesL, AV.names]; done)) | (refine Or.inr ?_; (simp [or_imp, forall_and, AV.namesL, AV.names]; done)) | skip
          rfl
        · repeat ((intro _u; clear _u); first
            | (with_reducible refine acnd_tt ?_)
            | (with_reducible refine acnd_ff ?_)
            | ((with_reducible refine IConf.mk ?_ ?_); · kernel_rfl)
            | (first | (refine aix_n 0 rfl rfl ?_) | (refine aix_n 1 rfl rfl ?_) | (refine aix_n 2 rfl rfl ?_) | (refine aix_n 3 rfl rfl ?_) | (refine aix_n 4 rfl rfl ?_) | (refine aix_n 5 rfl rfl ?_) | (refine aix_n 6 rfl rfl ?_) | (refine aix_n 7 rfl rfl ?_))
            | ((with_reducible refine iwr_in ?_ ?_); · (simp only [inI]; omega))
            | ((with_reducible refine need_i ?_ ?_); · (first | omega | (simp <;> omega))))
          intro _u; clear _u
          refine IRet.of ?_
          all_goals repeat' (first | exact True.intro | refine And.intro ?_ ?_ | (intro _u; clear _u) | (with_reducible refine fzEs_same ?_ ?_ ?_) | (with_reducible refine mtEs_same ?_ ?_))
          all_goals first | (with_reducible rfl) | omega | (simp; done) | (simp only [AV.namesL, AV.names, List.append_nil]; done) | (simp [AV.namesL]; done) | (simp [AV.namesL, AV.names]; done) | exact Or.inl (by decide) | (refine Or.inr ?_; (simp [AV.namesL, AV.names]; done)) | (refine Or.inr ?_; (simp [or_imp, forall_and, AV.namesL, AV.names]; done)) | skip
          rfl

theorem rcap_c {R : Env} (h : N38 R) (k : Int) : R.Pc 38 [.int .i64 k] (.int .i64 (cap k)) :=
  h.o38.enter 60 rfl fun X b hfit hp => by
    repeat ((intro _u; clear _u); first
      | (with_reducible refine acnd_tt ?_)
      | (with_reducible refine acnd_ff ?_)
      | ((with_reducible refine IConf.mk ?_ ?_); · kernel_rfl)
      | (first | (refine aix_n 0 rfl rfl ?_) | (refine aix_n 1 rfl rfl ?_) | (refine aix_n 2 rfl rfl ?_) | (refine aix_n 3 rfl rfl ?_) | (refine aix_n 4 rfl rfl ?_) | (refine aix_n 5 rfl rfl ?_) | (refine aix_n 6 rfl rfl ?_) | (refine aix_n 7 rfl rfl ?_))
      | ((with_reducible refine iwr_in ?_ ?_); · (simp only [inI]; omega))
      | ((with_reducible refine need_i ?_ ?_); · (first | omega | (simp <;> omega))))
    intro _u; clear _u
    refine acnd_i (fun h1 => ?_) (fun h1 => ?_)
    all_goals repeat (first | simp only [decide_eq_true_eq] at h1 | simp only [decide_eq_false_iff_not] at h1 | simp only [beq_iff_eq] at h1 | simp only [bne_iff_ne] at h1 | simp only [beq_eq_false_iff_ne] at h1 | simp only [bne_eq_false_iff_eq] at h1 | simp only [Bool.not_eq_true'] at h1 | simp only [Bool.not_eq_false'] at h1 | simp only [Int.not_lt] at h1 | simp only [Int.not_le] at h1 | simp only [Bool.and_eq_true] at h1 | simp only [Bool.or_eq_true] at h1 | simp only [gt_iff_lt] at h1 | simp only [ge_iff_le] at h1 | simp only [ne_eq] at h1 | simp only [Decidable.not_not] at h1)
    · repeat ((intro _u; clear _u); first
        | (with_reducible refine acnd_tt ?_)
        | (with_reducible refine acnd_ff ?_)
        | ((with_reducible refine IConf.mk ?_ ?_); · kernel_rfl)
        | (first | (refine aix_n 0 rfl rfl ?_) | (refine aix_n 1 rfl rfl ?_) | (refine aix_n 2 rfl rfl ?_) | (refine aix_n 3 rfl rfl ?_) | (refine aix_n 4 rfl rfl ?_) | (refine aix_n 5 rfl rfl ?_) | (refine aix_n 6 rfl rfl ?_) | (refine aix_n 7 rfl rfl ?_))
        | ((with_reducible refine iwr_in ?_ ?_); · (simp only [inI]; omega))
        | ((with_reducible refine need_i ?_ ?_); · (first | omega | (simp <;> omega))))
      intro _u; clear _u
      refine IRet.of ?_
      all_goals repeat' (first | exact True.intro | refine And.intro ?_ ?_ | (intro _u; clear _u) | (with_reducible refine fzEs_same ?_ ?_ ?_) | (with_reducible refine mtEs_same ?_ ?_))
      all_goals first | (with_reducible rfl) | omega | (simp; done) | (simp only [AV.namesL, AV.names, List.append_nil]; done) | (simp [AV.namesL]; done) | (simp [AV.namesL, AV.names]; done) | exact Or.inl (by decide) | (refine Or.inr ?_; (simp [AV.namesL, AV.names]; done)) | (refine Or.inr ?_; (simp [or_imp, forall_and, AV.namesL, AV.names]; done)) | skip
      simp [cap, h1]
    · repeat ((intro _u; clear _u); first
        | (with_reducible refine acnd_tt ?_)
        | (with_reducible refine acnd_ff ?_)
        | ((with_reducible refine IConf.mk ?_ ?_); · kernel_rfl)
        | (first | (refine aix_n 0 rfl rfl ?_) | (refine aix_n 1 rfl rfl ?_) | (refine aix_n 2 rfl rfl ?_) | (refine aix_n 3 rfl rfl ?_) | (refine aix_n 4 rfl rfl ?_) | (refine aix_n 5 rfl rfl ?_) | (refine aix_n 6 rfl rfl ?_) | (refine aix_n 7 rfl rfl ?_))
        | ((with_reducible refine iwr_in ?_ ?_); · (simp only [inI]; omega))
        | ((with_reducible refine need_i ?_ ?_); · (first | omega | (simp <;> omega))))
      intro _u; clear _u
      refine acnd_i (fun h2 => ?_) (fun h2 => ?_)
      all_goals repeat (first | simp only [decide_eq_true_eq] at h2 | simp only [decide_eq_false_iff_not] at h2 | simp only [beq_iff_eq] at h2 | simp only [bne_iff_ne] at h2 | simp only [beq_eq_false_iff_ne] at h2 | simp only [bne_eq_false_iff_eq] at h2 | simp only [Bool.not_eq_true'] at h2 | simp only [Bool.not_eq_false'] at h2 | simp only [Int.not_lt] at h2 | simp only [Int.not_le] at h2 | simp only [Bool.and_eq_true] at h2 | simp only [Bool.or_eq_true] at h2 | simp only [gt_iff_lt] at h2 | simp only [ge_iff_le] at h2 | simp only [ne_eq] at h2 | simp only [Decidable.not_not] at h2)
      · repeat ((intro _u; clear _u); first
          | (with_reducible refine acnd_tt ?_)
          | (with_reducible refine acnd_ff ?_)
          | ((with_reducible refine IConf.mk ?_ ?_); · kernel_rfl)
          | (first | (refine aix_n 0 rfl rfl ?_) | (refine aix_n 1 rfl rfl ?_) | (refine aix_n 2 rfl rfl ?_) | (refine aix_n 3 rfl rfl ?_) | (refine aix_n 4 rfl rfl ?_) | (refine aix_n 5 rfl rfl ?_) | (refine aix_n 6 rfl rfl ?_) | (refine aix_n 7 rfl rfl ?_))
          | ((with_reducible refine iwr_in ?_ ?_); · (simp only [inI]; omega))
          | ((with_reducible refine need_i ?_ ?_); · (first | omega | (simp <;> omega))))
        intro _u; clear _u
        refine IRet.of ?_
        all_goals repeat' (first | exact True.intro | refine And.intro ?_ ?_ | (intro _u; clear _u) | (with_reducible refine fzEs_same ?_ ?_ ?_) | (with_reducible refine mtEs_same ?_ ?_))
        all_goals first | (with_reducible rfl) | omega | (simp; done) | (simp only [AV.namesL, AV.names, List.append_nil]; done) | (simp [AV.namesL]; done) | (simp [AV.namesL, AV.names]; done) | exact Or.inl (by decide) | (refine Or.inr ?_; (simp [AV.namesL, AV.names]; done)) | (refine Or.inr ?_; (simp [or_imp, forall_and, AV.namesL, AV.names]; done)) | skip
        simp [cap, h1, h2]
      · repeat ((intro _u; clear _u); first
          | (with_reducible refine acnd_tt ?_)
          | (with_reducible refine acnd_ff ?_)
          | ((with_reducible refine IConf.mk ?_ ?_); · kernel_rfl)
          | (first | (refine aix_n 0 rfl rfl ?_) | (refine aix_n 1 rfl rfl ?_) | (refine aix_n 2 rfl rfl ?_) | (refine aix_n 3 rfl rfl ?_) | (refine aix_n 4 rfl rfl ?_) | (refine aix_n 5 rfl rfl ?_) | (refine aix_n 6 rfl rfl ?_) | (refine aix_n 7 rfl rfl ?_))
          | ((with_reducible refine iwr_in ?_ ?_); · (simp only [inI]; omega))
          | ((with_reducible refine need_i ?_ ?_); · (first | omega | (simp <;> omega))))
        intro _u; clear _u
        refine acnd_i (fun h3 => ?_) (fun h3 => ?_)
        all_goals repeat (first | simp only [decide_eq_true_eq] at h3 | simp only [decide_eq_false_iff_not] at h3 | simp only [beq_iff_eq] at h3 | simp only [bne_iff_ne] at h3 | simp only [beq_eq_false_iff_ne] at h3 | simp only [bne_eq_false_iff_eq] at h3 | simp only [Bool.not_eq_true'] at h3 | simp only [Bool.not_eq_false'] at h3 | simp only [Int.not_lt] at h3 | simp only [Int.not_le] at h3 | simp only [Bool.and_eq_true] at h3 | simp only [Bool.or_eq_true] at h3 | simp only [gt_iff_lt] at h3 | simp only [ge_iff_le] at h3 | simp only [ne_eq] at h3 | simp only [Decidable.not_not] at h3)
        · repeat ((intro _u; clear _u); first
            | (with_reducible refine acnd_tt ?_)
            | (with_reducible refine acnd_ff ?_)
            | ((with_reducible refine IConf.mk ?_ ?_); · kernel_rfl)
            | (first | (refine aix_n 0 rfl rfl ?_) | (refine aix_n 1 rfl rfl ?_) | (refine aix_n 2 rfl rfl ?_) | (refine aix_n 3 rfl rfl ?_) | (refine aix_n 4 rfl rfl ?_) | (refine aix_n 5 rfl rfl ?_) | (refine aix_n 6 rfl rfl ?_) | (refine aix_n 7 rfl rfl ?_))
            | ((with_reducible refine iwr_in ?_ ?_); · (simp only [inI]; omega))
            | ((with_reducible refine need_i ?_ ?_); · (first | omega | (simp <;> omega))))
          intro _u; clear _u
          refine IRet.of ?_
          all_goals repeat' (first | exact True.intro | refine And.intro ?_ ?_ | (intro _u; clear _u) | (with_reducible refine fzEs_same ?_ ?_ ?_) | (with_reducible refine mtEs_same ?_ ?_))
          all_goals first | (with_reducible rfl) | omega | (simp; done) | (simp only [AV.namesL, AV.names, List.append_nil]; done) | (simp [AV.namesL]; done) | (simp [AV.namesL, AV.names]; done) | exact Or.inl (by decide) | (refine Or.inr ?_; (simp [AV.namesL, AV.names]; done)) | (refine Or.inr ?_; (simp [or_imp, forall_and, AV.namesL, AV.names]; done)) | skip
          simp [cap, h3]
        · repeat ((intro _u; clear _u); first
            | (with_reducible refine acnd_tt ?_)
            | (with_reducible refine acnd_ff ?_)
            | ((with_reducible refine IConf.mk ?_ ?_); · kernel_rfl)
            | (first | (refine aix_n 0 rfl rfl ?_) | (refine aix_n 1 rfl rfl ?_) | (refine aix_n 2 rfl rfl ?_) | (refine aix_n 3 rfl rfl ?_) | (refine aix_n 4 rfl rfl ?_) | (refine aix_n 5 rfl rfl ?_) | (refine aix_n 6 rfl rfl ?_) | (refine aix_n 7 rfl rfl ?_))
            | ((with_reducible refine iwr_in ?_ ?_); · (simp only [inI]; omega))
            | ((with_reducible refine need_i ?_ ?_); · (first | omega | (simp <;> omega))))
          intro _u; clear _u
          refine acnd_i (fun h4 => ?_) (fun h4 => ?_)
          all_goals repeat (first | simp only [decide_eq_true_eq] at h4 | simp only [decide_eq_false_iff_not] at h4 | simp only [beq_iff_eq] at h4 | simp only [bne_iff_ne] at h4 | simp only [beq_eq_false_iff_ne] at h4 | simp only [bne_eq_false_iff_eq] at h4 | simp only [Bool.not_eq_true'] at h4 | simp only [Bool.not_eq_false'] at h4 | simp only [Int.not_lt] at h4 | simp only [Int.not_le] at h4 | simp only [Bool.and_eq_true] at h4 | simp only [Bool.or_eq_true] at h4 | simp only [gt_iff_lt] at h4 | simp only [ge_iff_le] at h4 | simp only [ne_eq] at h4 | simp only [Decidable.not_not] at h4)
          · repeat ((intro _u; clear _u); first
              | (with_reducible refine acnd_tt ?_)
              | (with_reducible refine acnd_ff ?_)
              | ((with_reducible refine IConf.mk ?_ ?_); · kernel_rfl)
              | (first | (refine aix_n 0 rfl rfl ?_) | (refine aix_n 1 rfl rfl ?_) | (refine aix_n 2 rfl rfl ?_) | (refine aix_n 3 rfl rfl ?_) | (refine aix_n 4 rfl rfl ?_) | (refine aix_n 5 rfl rfl ?_) | (refine aix_n 6 rfl rfl ?_) | (refine aix_n 7 rfl rfl ?_))
              | ((with_reducible refine iwr_in ?_ ?_); · (simp only [inI]; omega))
              | ((with_reducible refine need_i ?_ ?_); · (first | omega | (simp <;> omega))))
            intro _u; clear _u
            refine IRet.of ?_
            all_goals repeat' (first | exact True.intro | refine And.intro ?_ ?_ | (intro _u; clear _u) | (with_reducible refine fzEs_same ?_ ?_ ?_) | (with_reducible refine mtEs_same ?_ ?_))
            all_goals first | (with_reducible rfl) | omega | (simp; done) | (simp only [AV.namesL, AV.names, List.append_nil]; done) | (simp [AV.namesL]; done) | (simp [AV.namesL, AV.names]; done) | exact Or.inl (by decide) | (refine Or.inr ?_; (simp [AV.namesL, AV.names]; done)) | (refine Or.inr ?_; (simp [or_imp, forall_and, AV.namesL, AV.names]; done)) | skip
            simp [cap, h4]
          · repeat ((intro _u; clear _u); first
              | (with_reducible refine acnd_tt ?_)
              | (with_reducible refine acnd_ff ?_)
              | ((with_reducible refine IConf.mk ?_ ?_); · kernel_rfl)
              | (first | (refine aix_n 0 rfl rfl ?_) | (refine aix_n 1 rfl rfl ?_) | (refine aix_n 2 rfl rfl ?_) | (refine aix_n 3 rfl rfl ?_) | (refine aix_n 4 rfl rfl ?_) | (refine aix_n 5 rfl rfl ?_) | (refine aix_n 6 rfl rfl ?_) | (refine aix_n 7 rfl rfl ?_))
              | ((with_reducible refine iwr_in ?_ ?_); · (simp only [inI]; omega))
              | ((with_reducible refine need_i ?_ ?_); · (first | omega | (simp <;> omega))))
            intro _u; clear _u
            refine IRet.of ?_
            all_goals repeat' (first | exact True.intro | refine And.intro ?_ ?_ | (intro _u; clear _u) | (with_reducible refine fzEs_same ?_ ?_ ?_) | (with_reducible refine mtEs_same ?_ ?_))
            all_goals first | (with_reducible rfl) | omega | (simp; done) | (simp only [AV.namesL, AV.names, List.append_nil]; done) | (simp [AV.namesL]; done) | (simp [AV.namesL, AV.names]; done) | exact Or.inl (by decide) | (refine Or.inr ?_; (simp [AV.namesL, AV.names]; done)) | (refine Or.inr ?_; (simp [or_imp, forall_and, AV.namesL, AV.names]; done)) | skip
            simp [cap, h1, h2, h3, h4]

def chn (n : Int) : Int := if n < 1 then 0 else (n - 1) / 256 + 1

theorem chunks_c {R : Env} (h : N39 R) (n : Int) (hn : inI .i64 n) : R.Pc 39 [.int .i64 n] (.int .i64 (chn n)) :=
  h.o39.enter 60 rfl fun X b hfit hp => by
    simp only [inI] at hn
    repeat ((intro _u; clear _u); first
      | (with_reducible refine acnd_tt ?_)
      | (with_reducible refine acnd_ff ?_)
      | ((with_reducible refine IConf.mk ?_ ?_); · kernel_rfl)
      | (first | (refine aix_n 0 rfl rfl ?_) | (refine aix_n 1 rfl rfl ?_) | (refine aix_n 2 rfl rfl ?_) | (refine aix_n 3 rfl rfl ?_) | (refine aix_n 4 rfl rfl ?_) | (refine aix_n 5 rfl rfl ?_) | (refine aix_n 6 rfl rfl ?_) | (refine aix_n 7 rfl rfl ?_))
      | ((with_reducible refine iwr_in ?_ ?_); · (simp only [inI]; omega))
      | ((with_reducible refine need_i ?_ ?_); · (first | omega | (simp <;> omega))))
    intro _u; clear _u
    refine acnd_i (fun h1 => ?_) (fun h1 => ?_)
    all_goals repeat (first | simp only [decide_eq_true_eq] at h1 | simp only [decide_eq_false_iff_not] at h1 | simp only [beq_iff_eq] at h1 | simp only [bne_iff_ne] at h1 | simp only [beq_eq_false_iff_ne] at h1 | simp only [bne_eq_false_iff_eq] at h1 | simp only [Bool.not_eq_true'] at h1 | simp only [Bool.not_eq_false'] at h1 | simp only [Int.not_lt] at h1 | simp only [Int.not_le] at h1 | simp only [Bool.and_eq_true] at h1 | simp only [Bool.or_eq_true] at h1 | simp only [gt_iff_lt] at h1 | simp only [ge_iff_le] at h1 | simp only [ne_eq] at h1 | simp only [Decidable.not_not] at h1)
    · repeat ((intro _u; clear _u); first
        | (with_reducible refine acnd_tt ?_)
        | (with_reducible refine acnd_ff ?_)
        | ((with_reducible refine IConf.mk ?_ ?_); · kernel_rfl)
        | (first | (refine aix_n 0 rfl rfl ?_) | (refine aix_n 1 rfl rfl ?_) | (refine aix_n 2 rfl rfl ?_) | (refine aix_n 3 rfl rfl ?_) | (refine aix_n 4 rfl rfl ?_) | (refine aix_n 5 rfl rfl ?_) | (refine aix_n 6 rfl rfl ?_) | (refine aix_n 7 rfl rfl ?_))
        | ((with_reducible refine iwr_in ?_ ?_); · (simp only [inI]; omega))
        | ((with_reducible refine need_i ?_ ?_); · (first | omega | (simp <;> omega))))
      intro _u; clear _u
      refine IRet.of ?_
      all_goals repeat' (first | exact True.intro | refine And.intro ?_ ?_ | (intro _u; clear _u) | (with_reducible refine fzEs_same ?_ ?_ ?_) | (with_reducible refine mtEs_same ?_ ?_))
      all_goals first | (with_reducible rfl) | omega | (simp; done) | (simp only [AV.namesL, AV.names, List.append_nil]; done) | (simp [AV.namesL]; done) | (simp [AV.namesL, AV.names]; done) | exact Or.inl (by decide) | (refine Or.inr ?_; (simp [AV.namesL, AV.names]; done)) | (refine Or.inr ?_; (simp [or_imp, forall_and, AV.namesL, AV.names]; done)) | skip
      simp [chn]; omega
    · repeat ((intro _u; clear _u); first
        | (with_reducible refine acnd_tt ?_)
        | (with_reducible refine acnd_ff ?_)
        | ((with_reducible refine IConf.mk ?_ ?_); · kernel_rfl)
        | (first | (refine aix_n 0 rfl rfl ?_) | (refine aix_n 1 rfl rfl ?_) | (refine aix_n 2 rfl rfl ?_) | (refine aix_n 3 rfl rfl ?_) | (refine aix_n 4 rfl rfl ?_) | (refine aix_n 5 rfl rfl ?_) | (refine aix_n 6 rfl rfl ?_) | (refine aix_n 7 rfl rfl ?_))
        | ((with_reducible refine iwr_in ?_ ?_); · (simp only [inI]; omega))
        | ((with_reducible refine need_i ?_ ?_); · (first | omega | (simp <;> omega))))
      intro _u; clear _u
      rw [Int.tdiv_eq_ediv_of_nonneg (by omega)]
      refine iwr_in (by simp only [inI]; omega) ?_
      repeat ((intro _u; clear _u); first
        | (with_reducible refine acnd_tt ?_)
        | (with_reducible refine acnd_ff ?_)
        | ((with_reducible refine IConf.mk ?_ ?_); · kernel_rfl)
        | (first | (refine aix_n 0 rfl rfl ?_) | (refine aix_n 1 rfl rfl ?_) | (refine aix_n 2 rfl rfl ?_) | (refine aix_n 3 rfl rfl ?_) | (refine aix_n 4 rfl rfl ?_) | (refine aix_n 5 rfl rfl ?_) | (refine aix_n 6 rfl rfl ?_) | (refine aix_n 7 rfl rfl ?_))
        | ((with_reducible refine iwr_in ?_ ?_); · (simp only [inI]; omega))
        | ((with_reducible refine need_i ?_ ?_); · (first | omega | (simp <;> omega))))
      intro _u; clear _u
      refine IRet.of ?_
      all_goals repeat' (first | exact True.intro | refine And.intro ?_ ?_ | (intro _u; clear _u) | (with_reducible refine fzEs_same ?_ ?_ ?_) | (with_reducible refine mtEs_same ?_ ?_))
      all_goals first | (with_reducible rfl) | omega | (simp; done) | (simp only [AV.namesL, AV.names, List.append_nil]; done) | (simp [AV.namesL]; done) | (simp [AV.namesL, AV.names]; done) | exact Or.inl (by decide) | (refine Or.inr ?_; (simp [AV.namesL, AV.names]; done)) | (refine Or.inr ?_; (simp [or_imp, forall_and, AV.namesL, AV.names]; done)) | skip
      simp [chn]; omega

theorem rchunks_c {R : Env} (h : N40 R) (n : Int) (hn : inI .i64 n) : R.Pc 40 [.int .i64 n] (.int .i64 (chn n)) :=
  h.o40.enter 60 rfl fun X b hfit hp => by
    simp only [inI] at hn
    repeat ((intro _u; clear _u); first
      | (with_reducible refine acnd_tt ?_)
      | (with_reducible refine acnd_ff ?_)
      | ((with_reducible refine IConf.mk ?_ ?_); · kernel_rfl)
      | (first | (refine aix_n 0 rfl rfl ?_) | (refine aix_n 1 rfl rfl ?_) | (refine aix_n 2 rfl rfl ?_) | (refine aix_n 3 rfl rfl ?_) | (refine aix_n 4 rfl rfl ?_) | (refine aix_n 5 rfl rfl ?_) | (refine aix_n 6 rfl rfl ?_) | (refine aix_n 7 rfl rfl ?_))
      | ((with_reducible refine iwr_in ?_ ?_); · (simp only [inI]; omega))
      | ((with_reducible refine need_i ?_ ?_); · (first | omega | (simp <;> omega))))
    intro _u; clear _u
    refine ILoop.inv 60 (fun k : Nat => k ≤ 1000 ∧ (k = 0 ∨ 256 * ((k : Int) - 1) < n)) (fun k => ⟨[(0, .int .i64 n), (3, .int .i64 k)], [], 0⟩) (fun k => 1000 - k) (0) ?_ ⟨⟨_, hp, rfl⟩, ?_, ?_⟩ ?_
    · exact ⟨by omega, .inl rfl⟩
    · all_goals repeat' (first | exact True.intro | refine And.intro ?_ ?_ | (intro _u; clear _u) | (with_reducible refine fzEs_same ?_ ?_ ?_) | (with_reducible refine mtEs_same ?_ ?_))
      all_goals first | (with_reducible rfl) | omega | (simp; done) | (simp only [AV.namesL, AV.names, List.append_nil]; done) | (simp [AV.namesL]; done) | (simp [AV.namesL, AV.names]; done) | exact Or.inl (by decide) | (refine Or.inr ?_; (simp [AV.namesL, AV.names]; done)) | (refine Or.inr ?_; (simp [or_imp, forall_and, AV.namesL, AV.names]; done)) | skip
    · all_goals repeat' (first | exact True.intro | refine And.intro ?_ ?_ | (intro _u; clear _u) | (with_reducible refine fzEs_same ?_ ?_ ?_) | (with_reducible refine mtEs_same ?_ ?_))
      all_goals first | (with_reducible rfl) | omega | (simp; done) | (simp only [AV.namesL, AV.names, List.append_nil]; done) | (simp [AV.namesL]; done) | (simp [AV.namesL, AV.names]; done) | exact Or.inl (by decide) | (refine Or.inr ?_; (simp [AV.namesL, AV.names]; done)) | (refine Or.inr ?_; (simp [or_imp, forall_and, AV.namesL, AV.names]; done)) | skip
    · rintro k ⟨hk, hk'⟩
      dsimp only
      repeat ((intro _u; clear _u); first
        | (with_reducible refine acnd_tt ?_)
        | (with_reducible refine acnd_ff ?_)
        | ((with_reducible refine IConf.mk ?_ ?_); · kernel_rfl)
        | (first | (refine aix_n 0 rfl rfl ?_) | (refine aix_n 1 rfl rfl ?_) | (refine aix_n 2 rfl rfl ?_) | (refine aix_n 3 rfl rfl ?_) | (refine aix_n 4 rfl rfl ?_) | (refine aix_n 5 rfl rfl ?_) | (refine aix_n 6 rfl rfl ?_) | (refine aix_n 7 rfl rfl ?_))
        | ((with_reducible refine iwr_in ?_ ?_); · (simp only [inI]; omega))
        | ((with_reducible refine need_i ?_ ?_); · (first | omega | (simp <;> omega))))
      intro _u; clear _u
      refine acnd_i (fun h1 => ?_) (fun h1 => ?_)
      all_goals repeat (first | simp only [decide_eq_true_eq] at h1 | simp only [decide_eq_false_iff_not] at h1 | simp only [beq_iff_eq] at h1 | simp only [bne_iff_ne] at h1 | simp only [beq_eq_false_iff_ne] at h1 | simp only [bne_eq_false_iff_eq] at h1 | simp only [Bool.not_eq_true'] at h1 | simp only [Bool.not_eq_false'] at h1 | simp only [Int.not_lt] at h1 | simp only [Int.not_le] at h1 | simp only [Bool.and_eq_true] at h1 | simp only [Bool.or_eq_true] at h1 | simp only [gt_iff_lt] at h1 | simp only [ge_iff_le] at h1 | simp only [ne_eq] at h1 | simp only [Decidable.not_not] at h1)
      · repeat ((intro _u; clear _u); first
          | (with_reducible refine acnd_tt ?_)
          | (with_reducible refine acnd_ff ?_)
          | ((with_reducible refine IConf.mk ?_ ?_); · kernel_rfl)
          | (first | (refine aix_n 0 rfl rfl ?_) | (refine aix_n 1 rfl rfl ?_) | (refine aix_n 2 rfl rfl ?_) | (refine aix_n 3 rfl rfl ?_) | (refine aix_n 4 rfl rfl ?_) | (refine aix_n 5 rfl rfl ?_) | (refine aix_n 6 rfl rfl ?_) | (refine aix_n 7 rfl rfl ?_))
          | ((with_reducible refine iwr_in ?_ ?_); · (simp only [inI]; omega))
          | ((with_reducible refine need_i ?_ ?_); · (first | omega | (simp <;> omega))))
        intro _u; clear _u
        refine acnd_i (fun h2 => ?_) (fun h2 => ?_)
        all_goals repeat (first | simp only [decide_eq_true_eq] at h2 | simp only [decide_eq_false_iff_not] at h2 | simp only [beq_iff_eq] at h2 | simp only [bne_iff_ne] at h2 | simp only [beq_eq_false_iff_ne] at h2 | simp only [bne_eq_false_iff_eq] at h2 | simp only [Bool.not_eq_true'] at h2 | simp only [Bool.not_eq_false'] at h2 | simp only [Int.not_lt] at h2 | simp only [Int.not_le] at h2 | simp only [Bool.and_eq_true] at h2 | simp only [Bool.or_eq_true] at h2 | simp only [gt_iff_lt] at h2 | simp only [ge_iff_le] at h2 | simp only [ne_eq] at h2 | simp only [Decidable.not_not] at h2)
        · repeat ((intro _u; clear _u); first
            | (with_reducible refine acnd_tt ?_)
            | (with_reducible refine acnd_ff ?_)
            | ((with_reducible refine IConf.mk ?_ ?_); · kernel_rfl)
            | (first | (refine aix_n 0 rfl rfl ?_) | (refine aix_n 1 rfl rfl ?_) | (refine aix_n 2 rfl rfl ?_) | (refine aix_n 3 rfl rfl ?_) | (refine aix_n 4 rfl rfl ?_) | (refine aix_n 5 rfl rfl ?_) | (refine aix_n 6 rfl rfl ?_) | (refine aix_n 7 rfl rfl ?_))
            | ((with_reducible refine iwr_in ?_ ?_); · (simp only [inI]; omega))
            | ((with_reducible refine need_i ?_ ?_); · (first | omega | (simp <;> omega))))
          intro _u; clear _u
          refine ⟨k + 1, ?_, ?_, ⟨_, hp, rfl⟩, ?_, ?_⟩
          · omega
          · omega
          · all_goals repeat' (first | exact True.intro | refine And.intro ?_ ?_ | (intro _u; clear _u) | (with_reducible refine fzEs_same ?_ ?_ ?_) | (with_reducible refine mtEs_same ?_ ?_))
            all_goals first | (with_reducible rfl) | omega | (simp; done) | (simp only [AV.namesL, AV.names, List.append_nil]; done) | (simp [AV.namesL]; done) | (simp [AV.namesL, AV.names]; done) | exact Or.inl (by decide) | (refine Or.inr ?_; (simp [AV.namesL, AV.names]; done)) | (refine Or.inr ?_; (simp [or_imp, forall_and, AV.namesL, AV.names]; done)) | skip
          · all_goals repeat' (first | exact True.intro | refine And.intro ?_ ?_ | (intro _u; clear _u) | (with_reducible refine fzEs_same ?_ ?_ ?_) | (with_reducible refine mtEs_same ?_ ?_))
            all_goals first | (with_reducible rfl) | omega | (simp; done) | (simp only [AV.namesL, AV.names, List.append_nil]; done) | (simp [AV.namesL]; done) | (simp [AV.namesL, AV.names]; done) | exact Or.inl (by decide) | (refine Or.inr ?_; (simp [AV.namesL, AV.names]; done)) | (refine Or.inr ?_; (simp [or_imp, forall_and, AV.namesL, AV.names]; done)) | skip
        · repeat ((intro _u; clear _u); first
            | (with_reducible refine acnd_tt ?_)
            | (with_reducible refine acnd_ff ?_)
            | ((with_reducible refine IConf.mk ?_ ?_); · kernel_rfl)
            | (first | (refine aix_n 0 rfl rfl ?_) | (refine aix_n 1 rfl rfl ?_) | (refine aix_n 2 rfl rfl ?_) | (refine aix_n 3 rfl rfl ?_) | (refine aix_n 4 rfl rfl ?_) | (refine aix_n 5 rfl rfl ?_) | (refine aix_n 6 rfl rfl ?_) | (refine aix_n 7 rfl rfl ?_))
            | ((with_reducible refine iwr_in ?_ ?_); · (simp only [inI]; omega))
            | ((with_reducible refine need_i ?_ ?_); · (first | omega | (simp <;> omega))))
          intro _u; clear _u
          refine acnd_i (fun h3 => ?_) (fun h3 => ?_)
          all_goals repeat (first | simp only [decide_eq_true_eq] at h3 | simp only [decide_eq_false_iff_not] at h3 | simp only [beq_iff_eq] at h3 | simp only [bne_iff_ne] at h3 | simp only [beq_eq_false_iff_ne] at h3 | simp only [bne_eq_false_iff_eq] at h3 | simp only [Bool.not_eq_true'] at h3 | simp only [Bool.not_eq_false'] at h3 | simp only [Int.not_lt] at h3 | simp only [Int.not_le] at h3 | simp only [Bool.and_eq_true] at h3 | simp only [Bool.or_eq_true] at h3 | simp only [gt_iff_lt] at h3 | simp only [ge_iff_le] at h3 | simp only [ne_eq] at h3 | simp only [Decidable.not_not] at h3)
          · repeat ((intro _u; clear _u); first
              | (with_reducible refine acnd_tt ?_)
              | (with_reducible refine acnd_ff ?_)
              | ((with_reducible refine IConf.mk ?_ ?_); · kernel_rfl)
              | (first | (refine aix_n 0 rfl rfl ?_) | (refine aix_n 1 rfl rfl ?_) | (refine aix_n 2 rfl rfl ?_) | (refine aix_n 3 rfl rfl ?_) | (refine aix_n 4 rfl rfl ?_) | (refine aix_n 5 rfl rfl ?_) | (refine aix_n 6 rfl rfl ?_) | (refine aix_n 7 rfl rfl ?_))
              | ((with_reducible refine iwr_in ?_ ?_); · (simp only [inI]; omega))
              | ((with_reducible refine need_i ?_ ?_); · (first | omega | (simp <;> omega))))
            intro _u; clear _u
            rw [Int.tdiv_eq_ediv_of_nonneg (by omega)]
            refine iwr_in (by simp only [inI]; omega) ?_
            repeat ((intro _u; clear _u); first
              | (with_reducible refine acnd_tt ?_)
              | (with_reducible refine acnd_ff ?_)
              | ((with_reducible refine IConf.mk ?_ ?_); · kernel_rfl)
              | (first | (refine aix_n 0 rfl rfl ?_) | (refine aix_n 1 rfl rfl ?_) | (refine aix_n 2 rfl rfl ?_) | (refine aix_n 3 rfl rfl ?_) | (refine aix_n 4 rfl rfl ?_) | (refine aix_n 5 rfl rfl ?_) | (refine aix_n 6 rfl rfl ?_) | (refine aix_n 7 rfl rfl ?_))
              | ((with_reducible refine iwr_in ?_ ?_); · (simp only [inI]; omega))
              | ((with_reducible refine need_i ?_ ?_); · (first | omega | (simp <;> omega))))
            intro _u; clear _u
            rw [Int.tmod_eq_emod_of_nonneg (by omega)]
            refine iwr_in (by simp only [inI]; omega) ?_
            repeat ((intro _u; clear _u); first
              | (with_reducible refine acnd_tt ?_)
              | (with_reducible refine acnd_ff ?_)
              | ((with_reducible refine IConf.mk ?_ ?_); · kernel_rfl)
              | (first | (refine aix_n 0 rfl rfl ?_) | (refine aix_n 1 rfl rfl ?_) | (refine aix_n 2 rfl rfl ?_) | (refine aix_n 3 rfl rfl ?_) | (refine aix_n 4 rfl rfl ?_) | (refine aix_n 5 rfl rfl ?_) | (refine aix_n 6 rfl rfl ?_) | (refine aix_n 7 rfl rfl ?_))
              | ((with_reducible refine iwr_in ?_ ?_); · (simp only [inI]; omega))
              | ((with_reducible refine need_i ?_ ?_); · (first | omega | (simp <;> omega))))
            intro _u; clear _u
            refine IRet.of ?_
            all_goals repeat' (first | exact True.intro | refine And.intro ?_ ?_ | (intro _u; clear _u) | (with_reducible refine fzEs_same ?_ ?_ ?_) | (with_reducible refine mtEs_same ?_ ?_))
            all_goals first | (with_reducible rfl) | omega | (simp; done) | (simp only [AV.namesL, AV.names, List.append_nil]; done) | (simp [AV.namesL]; done) | (simp [AV.namesL, AV.names]; done) | exact Or.inl (by decide) | (refine Or.inr ?_; (simp [AV.namesL, AV.names]; done)) | (refine Or.inr ?_; (simp [or_imp, forall_and, AV.namesL, AV.names]; done)) | skip
            simp [chn]; omega
          · omega
      · repeat ((intro _u; clear _u); first
          | (with_reducible refine acnd_tt ?_)
          | (with_reducible refine acnd_ff ?_)
          | ((with_reducible refine IConf.mk ?_ ?_); · kernel_rfl)
          | (first | (refine aix_n 0 rfl rfl ?_) | (refine aix_n 1 rfl rfl ?_) | (refine aix_n 2 rfl rfl ?_) | (refine aix_n 3 rfl rfl ?_) | (refine aix_n 4 rfl rfl ?_) | (refine aix_n 5 rfl rfl ?_) | (refine aix_n 6 rfl rfl ?_) | (refine aix_n 7 rfl rfl ?_))
          | ((with_reducible refine iwr_in ?_ ?_); · (simp only [inI]; omega))
          | ((with_reducible refine need_i ?_ ?_); · (first | omega | (simp <;> omega))))
        intro _u; clear _u
        refine acnd_f (by (simp; omega)) ?_
        repeat ((intro _u; clear _u); first
          | (with_reducible refine acnd_tt ?_)
          | (with_reducible refine acnd_ff ?_)
          | ((with_reducible refine IConf.mk ?_ ?_); · kernel_rfl)
          | (first | (refine aix_n 0 rfl rfl ?_) | (refine aix_n 1 rfl rfl ?_) | (refine aix_n 2 rfl rfl ?_) | (refine aix_n 3 rfl rfl ?_) | (refine aix_n 4 rfl rfl ?_) | (refine aix_n 5 rfl rfl ?_) | (refine aix_n 6 rfl rfl ?_) | (refine aix_n 7 rfl rfl ?_))
          | ((with_reducible refine iwr_in ?_ ?_); · (simp only [inI]; omega))
          | ((with_reducible refine need_i ?_ ?_); · (first | omega | (simp <;> omega))))
        intro _u; clear _u
        refine IRet.of ?_
        all_goals repeat' (first | exact True.intro | refine And.intro ?_ ?_ | (intro _u; clear _u) | (with_reducible refine fzEs_same ?_ ?_ ?_) | (with_reducible refine mtEs_same ?_ ?_))
        all_goals first | (with_reducible rfl) | omega | (simp; done) | (simp only [AV.namesL, AV.names, List.append_nil]; done) | (simp [AV.namesL]; done) | (simp [AV.namesL, AV.names]; done) | exact Or.inl (by decide) | (refine Or.inr ?_; (simp [AV.namesL, AV.names]; done)) | (refine Or.inr ?_; (simp [or_imp, forall_and, AV.namesL, AV.names]; done)) | skip
        simp [chn]; omega

def Mf.high (m : Mf) : Bool := (List.range 8).any fun i => decide (15 < m.mask i)
theorem Mf.high_t {m : Mf} {i : Nat} (hi : i < 8) (h : 15 < m.mask i) : m.high = true := by
  simp only [Mf.high, List.any_eq_true, List.mem_range, decide_eq_true_eq]
  exact ⟨i, hi, h⟩
theorem Mf.high_f {m : Mf} (h : ∀ j, j < 8 → m.mask j ≤ 15) : m.high = false := by
  rw [Bool.eq_false_iff]
  intro hh
  simp only [Mf.high, List.any_eq_true, List.mem_range, decide_eq_true_eq] at hh
  obtain ⟨i, hi, h1⟩ := hh
  have := h i hi
  omega

def chk (m : Mf) : Int := if cap m.kind = 0 then 12 else if m.high = true then 5 else if m.last < m.first ∨ m.size < 1 then 5 else if cap m.kind < m.size then 9 else if m.chunks ≠ chn m.size then 5 else 0

theorem chk_c {R : Env} (h : N41 R) (m : Mf) (hs : inI .i64 m.size) : R.Pc 41 [.agg m.row] (.int .i64 (chk m)) :=
  h.o41.enter 100 rfl fun X b hfit hp => by
    repeat ((intro _u; clear _u); first
      | (with_reducible refine acnd_tt ?_)
      | (with_reducible refine acnd_ff ?_)
      | ((with_reducible refine IConf.mk ?_ ?_); · kernel_rfl)
      | (first | (refine aix_n 0 rfl rfl ?_) | (refine aix_n 1 rfl rfl ?_) | (refine aix_n 2 rfl rfl ?_) | (refine aix_n 3 rfl rfl ?_) | (refine aix_n 4 rfl rfl ?_) | (refine aix_n 5 rfl rfl ?_) | (refine aix_n 6 rfl rfl ?_) | (refine aix_n 7 rfl rfl ?_))
      | ((with_reducible refine iwr_in ?_ ?_); · (simp only [inI]; omega))
      | ((with_reducible refine need_i ?_ ?_); · (first | omega | (simp <;> omega))))
    intro _u; clear _u
    refine ICall.pure h.n37.o37.hb (cap_c h.n37 m.kind) rfl ?_
    repeat ((intro _u; clear _u); first
      | (with_reducible refine acnd_tt ?_)
      | (with_reducible refine acnd_ff ?_)
      | ((with_reducible refine IConf.mk ?_ ?_); · kernel_rfl)
      | (first | (refine aix_n 0 rfl rfl ?_) | (refine aix_n 1 rfl rfl ?_) | (refine aix_n 2 rfl rfl ?_) | (refine aix_n 3 rfl rfl ?_) | (refine aix_n 4 rfl rfl ?_) | (refine aix_n 5 rfl rfl ?_) | (refine aix_n 6 rfl rfl ?_) | (refine aix_n 7 rfl rfl ?_))
      | ((with_reducible refine iwr_in ?_ ?_); · (simp only [inI]; omega))
      | ((with_reducible refine need_i ?_ ?_); · (first | omega | (simp <;> omega))))
    intro _u; clear _u
    refine acnd_i (fun h1 => ?_) (fun h1 => ?_)
    all_goals repeat (first | simp only [decide_eq_true_eq] at h1 | simp only [decide_eq_false_iff_not] at h1 | simp only [beq_iff_eq] at h1 | simp only [bne_iff_ne] at h1 | simp only [beq_eq_false_iff_ne] at h1 | simp only [bne_eq_false_iff_eq] at h1 | simp only [Bool.not_eq_true'] at h1 | simp only [Bool.not_eq_false'] at h1 | simp only [Int.not_lt] at h1 | simp only [Int.not_le] at h1 | simp only [Bool.and_eq_true] at h1 | simp only [Bool.or_eq_true] at h1 | simp only [gt_iff_lt] at h1 | simp only [ge_iff_le] at h1 | simp only [ne_eq] at h1 | simp only [Decidable.not_not] at h1)
    · repeat ((intro _u; clear _u); first
        | (with_reducible refine acnd_tt ?_)
        | (with_reducible refine acnd_ff ?_)
        | ((with_reducible refine IConf.mk ?_ ?_); · kernel_rfl)
        | (first | (refine aix_n 0 rfl rfl ?_) | (refine aix_n 1 rfl rfl ?_) | (refine aix_n 2 rfl rfl ?_) | (refine aix_n 3 rfl rfl ?_) | (refine aix_n 4 rfl rfl ?_) | (refine aix_n 5 rfl rfl ?_) | (refine aix_n 6 rfl rfl ?_) | (refine aix_n 7 rfl rfl ?_))
        | ((with_reducible refine iwr_in ?_ ?_); · (simp only [inI]; omega))
        | ((with_reducible refine need_i ?_ ?_); · (first | omega | (simp <;> omega))))
      intro _u; clear _u
      refine IRet.of ?_
      all_goals repeat' (first | exact True.intro | refine And.intro ?_ ?_ | (intro _u; clear _u) | (with_reducible refine fzEs_same ?_ ?_ ?_) | (with_reducible refine mtEs_same ?_ ?_))
      all_goals first | (with_reducible rfl) | omega | (simp; done) | (simp only [AV.namesL, AV.names, List.append_nil]; done) | (simp [AV.namesL]; done) | (simp [AV.namesL, AV.names]; done) | exact Or.inl (by decide) | (refine Or.inr ?_; (simp [AV.namesL, AV.names]; done)) | (refine Or.inr ?_; (simp [or_imp, forall_and, AV.namesL, AV.names]; done)) | skip
      simp [chk, h1]
    · repeat ((intro _u; clear _u); first
        | (with_reducible refine acnd_tt ?_)
        | (with_reducible refine acnd_ff ?_)
        | ((with_reducible refine IConf.mk ?_ ?_); · kernel_rfl)
        | (first | (refine aix_n 0 rfl rfl ?_) | (refine aix_n 1 rfl rfl ?_) | (refine aix_n 2 rfl rfl ?_) | (refine aix_n 3 rfl rfl ?_) | (refine aix_n 4 rfl rfl ?_) | (refine aix_n 5 rfl rfl ?_) | (refine aix_n 6 rfl rfl ?_) | (refine aix_n 7 rfl rfl ?_))
        | ((with_reducible refine iwr_in ?_ ?_); · (simp only [inI]; omega))
        | ((with_reducible refine need_i ?_ ?_); · (first | omega | (simp <;> omega))))
      intro _u; clear _u
      refine ILoop.inv 100 (fun i : Nat => i ≤ 8 ∧ ∀ j, j < i → m.mask j ≤ 15) (fun i => ⟨[(1, .loc 0 1 0 0), (3, .int .i64 (cap m.kind)), (12, .agg [.int .u8 m.m0, .int .u8 m.m1, .int .u8 m.m2, .int .u8 m.m3, .int .u8 m.m4, .int .u8 m.m5, .int .u8 m.m6, .int .u8 m.m7]), (13, .int .i64 i)], [(0, .var (R.ty 2) m.row)], 1⟩) (fun i => 8 - i) (0) ?_ ⟨⟨_, hp, rfl⟩, ?_, ?_⟩ ?_
      · exact ⟨by omega, fun j hj => by omega⟩
      · all_goals repeat' (first | exact True.intro | refine And.intro ?_ ?_ | (intro _u; clear _u) | (with_reducible refine fzEs_same ?_ ?_ ?_) | (with_reducible refine mtEs_same ?_ ?_))
        all_goals first | (with_reducible rfl) | omega | (simp; done) | (simp only [AV.namesL, AV.names, List.append_nil]; done) | (simp [AV.namesL]; done) | (simp [AV.namesL, AV.names]; done) | exact Or.inl (by decide) | (refine Or.inr ?_; (simp [AV.namesL, AV.names]; done)) | (refine Or.inr ?_; (simp [or_imp, forall_and, AV.namesL, AV.names]; done)) | skip
      · all_goals repeat' (first | exact True.intro | refine And.intro ?_ ?_ | (intro _u; clear _u) | (with_reducible refine fzEs_same ?_ ?_ ?_) | (with_reducible refine mtEs_same ?_ ?_))
        all_goals first | (with_reducible rfl) | omega | (simp; done) | (simp only [AV.namesL, AV.names, List.append_nil]; done) | (simp [AV.namesL]; done) | (simp [AV.namesL, AV.names]; done) | exact Or.inl (by decide) | (refine Or.inr ?_; (simp [AV.namesL, AV.names]; done)) | (refine Or.inr ?_; (simp [or_imp, forall_and, AV.namesL, AV.names]; done)) | skip
      · rintro i ⟨hi, hm⟩
        dsimp only
        repeat ((intro _u; clear _u); first
          | (with_reducible refine acnd_tt ?_)
          | (with_reducible refine acnd_ff ?_)
          | ((with_reducible refine IConf.mk ?_ ?_); · kernel_rfl)
          | (first | (refine aix_n 0 rfl rfl ?_) | (refine aix_n 1 rfl rfl ?_) | (refine aix_n 2 rfl rfl ?_) | (refine aix_n 3 rfl rfl ?_) | (refine aix_n 4 rfl rfl ?_) | (refine aix_n 5 rfl rfl ?_) | (refine aix_n 6 rfl rfl ?_) | (refine aix_n 7 rfl rfl ?_))
          | ((with_reducible refine iwr_in ?_ ?_); · (simp only [inI]; omega))
          | ((with_reducible refine need_i ?_ ?_); · (first | omega | (simp <;> omega))))
        intro _u; clear _u
        refine acnd_i (fun h2 => ?_) (fun h2 => ?_)
        all_goals repeat (first | simp only [decide_eq_true_eq] at h2 | simp only [decide_eq_false_iff_not] at h2 | simp only [beq_iff_eq] at h2 | simp only [bne_iff_ne] at h2 | simp only [beq_eq_false_iff_ne] at h2 | simp only [bne_eq_false_iff_eq] at h2 | simp only [Bool.not_eq_true'] at h2 | simp only [Bool.not_eq_false'] at h2 | simp only [Int.not_lt] at h2 | simp only [Int.not_le] at h2 | simp only [Bool.and_eq_true] at h2 | simp only [Bool.or_eq_true] at h2 | simp only [gt_iff_lt] at h2 | simp only [ge_iff_le] at h2 | simp only [ne_eq] at h2 | simp only [Decidable.not_not] at h2)
        · repeat ((intro _u; clear _u); first
            | (with_reducible refine acnd_tt ?_)
            | (with_reducible refine acnd_ff ?_)
            | ((with_reducible refine IConf.mk ?_ ?_); · kernel_rfl)
            | (first | (refine aix_n 0 rfl rfl ?_) | (refine aix_n 1 rfl rfl ?_) | (refine aix_n 2 rfl rfl ?_) | (refine aix_n 3 rfl rfl ?_) | (refine aix_n 4 rfl rfl ?_) | (refine aix_n 5 rfl rfl ?_) | (refine aix_n 6 rfl rfl ?_) | (refine aix_n 7 rfl rfl ?_))
            | ((with_reducible refine iwr_in ?_ ?_); · (simp only [inI]; omega))
            | ((with_reducible refine need_i ?_ ?_); · (first | omega | (simp <;> omega))))
          intro _u; clear _u
          refine vix_masks (by omega) ?_
          repeat ((intro _u; clear _u); first
            | (with_reducible refine acnd_tt ?_)
            | (with_reducible refine acnd_ff ?_)
            | ((with_reducible refine IConf.mk ?_ ?_); · kernel_rfl)
            | (first | (refine aix_n 0 rfl rfl ?_) | (refine aix_n 1 rfl rfl ?_) | (refine aix_n 2 rfl rfl ?_) | (refine aix_n 3 rfl rfl ?_) | (refine aix_n 4 rfl rfl ?_) | (refine aix_n 5 rfl rfl ?_) | (refine aix_n 6 rfl rfl ?_) | (refine aix_n 7 rfl rfl ?_))
            | ((with_reducible refine iwr_in ?_ ?_); · (simp only [inI]; omega))
            | ((with_reducible refine need_i ?_ ?_); · (first | omega | (simp <;> omega))))
          intro _u; clear _u
          refine acnd_i (fun h3 => ?_) (fun h3 => ?_)
          all_goals repeat (first | simp only [decide_eq_true_eq] at h3 | simp only [decide_eq_false_iff_not] at h3 | simp only [beq_iff_eq] at h3 | simp only [bne_iff_ne] at h3 | simp only [beq_eq_false_iff_ne] at h3 | simp only [bne_eq_false_iff_eq] at h3 | simp only [Bool.not_eq_true'] at h3 | simp only [Bool.not_eq_false'] at h3 | simp only [Int.not_lt] at h3 | simp only [Int.not_le] at h3 | simp only [Bool.and_eq_true] at h3 | simp only [Bool.or_eq_true] at h3 | simp only [gt_iff_lt] at h3 | simp only [ge_iff_le] at h3 | simp only [ne_eq] at h3 | simp only [Decidable.not_not] at h3)
          · repeat ((intro _u; clear _u); first
              | (with_reducible refine acnd_tt ?_)
              | (with_reducible refine acnd_ff ?_)
              | ((with_reducible refine IConf.mk ?_ ?_); · kernel_rfl)
              | (first | (refine aix_n 0 rfl rfl ?_) | (refine aix_n 1 rfl rfl ?_) | (refine aix_n 2 rfl rfl ?_) | (refine aix_n 3 rfl rfl ?_) | (refine aix_n 4 rfl rfl ?_) | (refine aix_n 5 rfl rfl ?_) | (refine aix_n 6 rfl rfl ?_) | (refine aix_n 7 rfl rfl ?_))
              | ((with_reducible refine iwr_in ?_ ?_); · (simp only [inI]; omega))
              | ((with_reducible refine need_i ?_ ?_); · (first | omega | (simp <;> omega))))
            intro _u; clear _u
            refine IRet.of ?_
            all_goals repeat' (first | exact True.intro | refine And.intro ?_ ?_ | (intro _u; clear _u) | (with_reducible refine fzEs_same ?_ ?_ ?_) | (with_reducible refine mtEs_same ?_ ?_))
            all_goals first | (with_reducible rfl) | omega | (simp; done) | (simp only [AV.namesL, AV.names, List.append_nil]; done) | (simp [AV.namesL]; done) | (simp [AV.namesL, AV.names]; done) | exact Or.inl (by decide) | (refine Or.inr ?_; (simp [AV.namesL, AV.names]; done)) | (refine Or.inr ?_; (simp [or_imp, forall_and, AV.namesL, AV.names]; done)) | skip
            have : m.high = true := Mf.high_t (by omega) h3
            simp [chk, h1, this]
          · repeat ((intro _u; clear _u); first
              | (with_reducible refine acnd_tt ?_)
              | (with_reducible refine acnd_ff ?_)
              | ((with_reducible refine IConf.mk ?_ ?_); · kernel_rfl)
              | (first | (refine aix_n 0 rfl rfl ?_) | (refine aix_n 1 rfl rfl ?_) | (refine aix_n 2 rfl rfl ?_) | (refine aix_n 3 rfl rfl ?_) | (refine aix_n 4 rfl rfl ?_) | (refine aix_n 5 rfl rfl ?_) | (refine aix_n 6 rfl rfl ?_) | (refine aix_n 7 rfl rfl ?_))
              | ((with_reducible refine iwr_in ?_ ?_); · (simp only [inI]; omega))
              | ((with_reducible refine need_i ?_ ?_); · (first | omega | (simp <;> omega))))
            intro _u; clear _u
            refine ⟨i + 1, ?_, ?_, ⟨_, hp, rfl⟩, ?_, ?_⟩
            · refine ⟨by omega, fun j hj => ?_⟩
              by_cases e : j = i
              · rw [e]; exact h3
              · exact hm j (by omega)
            · omega
            · all_goals repeat' (first | exact True.intro | refine And.intro ?_ ?_ | (intro _u; clear _u) | (with_reducible refine fzEs_same ?_ ?_ ?_) | (with_reducible refine mtEs_same ?_ ?_))
              all_goals first | (with_reducible rfl) | omega | (simp; done) | (simp only [AV.namesL, AV.names, List.append_nil]; done) | (simp [AV.namesL]; done) | (simp [AV.namesL, AV.names]; done) | exact Or.inl (by decide) | (refine Or.inr ?_; (simp [AV.namesL, AV.names]; done)) | (refine Or.inr ?_; (simp [or_imp, forall_and, AV.namesL, AV.names]; done)) | skip
            · all_goals repeat' (first | exact True.intro | refine And.intro ?_ ?_ | (intro _u; clear _u) | (with_reducible refine fzEs_same ?_ ?_ ?_) | (with_reducible refine mtEs_same ?_ ?_))
              all_goals first | (with_reducible rfl) | omega | (simp; done) | (simp only [AV.namesL, AV.names, List.append_nil]; done) | (simp [AV.namesL]; done) | (simp [AV.namesL, AV.names]; done) | exact Or.inl (by decide) | (refine Or.inr ?_; (simp [AV.namesL, AV.names]; done)) | (refine Or.inr ?_; (simp [or_imp, forall_and, AV.namesL, AV.names]; done)) | skip
        · have hno : m.high = false := Mf.high_f fun j hj => hm j (by omega)
          repeat ((intro _u; clear _u); first
            | (with_reducible refine acnd_tt ?_)
            | (with_reducible refine acnd_ff ?_)
            | ((with_reducible refine IConf.mk ?_ ?_); · kernel_rfl)
            | (first | (refine aix_n 0 rfl rfl ?_) | (refine aix_n 1 rfl rfl ?_) | (refine aix_n 2 rfl rfl ?_) | (refine aix_n 3 rfl rfl ?_) | (refine aix_n 4 rfl rfl ?_) | (refine aix_n 5 rfl rfl ?_) | (refine aix_n 6 rfl rfl ?_) | (refine aix_n 7 rfl rfl ?_))
            | ((with_reducible refine iwr_in ?_ ?_); · (simp only [inI]; omega))
            | ((with_reducible refine need_i ?_ ?_); · (first | omega | (simp <;> omega))))
          intro _u; clear _u
          refine acnd_i (fun h3 => ?_) (fun h3 => ?_)
          all_goals repeat (first | simp only [decide_eq_true_eq] at h3 | simp only [decide_eq_false_iff_not] at h3 | simp only [beq_iff_eq] at h3 | simp only [bne_iff_ne] at h3 | simp only [beq_eq_false_iff_ne] at h3 | simp only [bne_eq_false_iff_eq] at h3 | simp only [Bool.not_eq_true'] at h3 | simp only [Bool.not_eq_false'] at h3 | simp only [Int.not_lt] at h3 | simp only [Int.not_le] at h3 | simp only [Bool.and_eq_true] at h3 | simp only [Bool.or_eq_true] at h3 | simp only [gt_iff_lt] at h3 | simp only [ge_iff_le] at h3 | simp only [ne_eq] at h3 | simp only [Decidable.not_not] at h3)
          · repeat ((intro _u; clear _u); first
              | (with_reducible refine acnd_tt ?_)
              | (with_reducible refine acnd_ff ?_)
              | ((with_reducible refine IConf.mk ?_ ?_); · kernel_rfl)
              | (first | (refine aix_n 0 rfl rfl ?_) | (refine aix_n 1 rfl rfl ?_) | (refine aix_n 2 rfl rfl ?_) | (refine aix_n 3 rfl rfl ?_) | (refine aix_n 4 rfl rfl ?_) | (refine aix_n 5 rfl rfl ?_) | (refine aix_n 6 rfl rfl ?_) | (refine aix_n 7 rfl rfl ?_))
              | ((with_reducible refine iwr_in ?_ ?_); · (simp only [inI]; omega))
              | ((with_reducible refine need_i ?_ ?_); · (first | omega | (simp <;> omega))))
            intro _u; clear _u
            refine IRet.of ?_
            all_goals repeat' (first | exact True.intro | refine And.intro ?_ ?_ | (intro _u; clear _u) | (with_reducible refine fzEs_same ?_ ?_ ?_) | (with_reducible refine mtEs_same ?_ ?_))
            all_goals first | (with_reducible rfl) | omega | (simp; done) | (simp only [AV.namesL, AV.names, List.append_nil]; done) | (simp [AV.namesL]; done) | (simp [AV.namesL, AV.names]; done) | exact Or.inl (by decide) | (refine Or.inr ?_; (simp [AV.namesL, AV.names]; done)) | (refine Or.inr ?_; (simp [or_imp, forall_and, AV.namesL, AV.names]; done)) | skip
            simp [chk, h1, hno]; omega
          · repeat ((intro _u; clear _u); first
              | (with_reducible refine acnd_tt ?_)
              | (with_reducible refine acnd_ff ?_)
              | ((with_reducible refine IConf.mk ?_ ?_); · kernel_rfl)
              | (first | (refine aix_n 0 rfl rfl ?_) | (refine aix_n 1 rfl rfl ?_) | (refine aix_n 2 rfl rfl ?_) | (refine aix_n 3 rfl rfl ?_) | (refine aix_n 4 rfl rfl ?_) | (refine aix_n 5 rfl rfl ?_) | (refine aix_n 6 rfl rfl ?_) | (refine aix_n 7 rfl rfl ?_))
              | ((with_reducible refine iwr_in ?_ ?_); · (simp only [inI]; omega))
              | ((with_reducible refine need_i ?_ ?_); · (first | omega | (simp <;> omega))))
            intro _u; clear _u
            refine acnd_i (fun h4 => ?_) (fun h4 => ?_)
            all_goals repeat (first | simp only [decide_eq_true_eq] at h4 | simp only [decide_eq_false_iff_not] at h4 | simp only [beq_iff_eq] at h4 | simp only [bne_iff_ne] at h4 | simp only [beq_eq_false_iff_ne] at h4 | simp only [bne_eq_false_iff_eq] at h4 | simp only [Bool.not_eq_true'] at h4 | simp only [Bool.not_eq_false'] at h4 | simp only [Int.not_lt] at h4 | simp only [Int.not_le] at h4 | simp only [Bool.and_eq_true] at h4 | simp only [Bool.or_eq_true] at h4 | simp only [gt_iff_lt] at h4 | simp only [ge_iff_le] at h4 | simp only [ne_eq] at h4 | simp only [Decidable.not_not] at h4)
            · repeat ((intro _u; clear _u); first
                | (with_reducible refine acnd_tt ?_)
                | (with_reducible refine acnd_ff ?_)
                | ((with_reducible refine IConf.mk ?_ ?_); · kernel_rfl)
                | (first | (refine aix_n 0 rfl rfl ?_) | (refine aix_n 1 rfl rfl ?_) | (refine aix_n 2 rfl rfl ?_) | (refine aix_n 3 rfl rfl ?_) | (refine aix_n 4 rfl rfl ?_) | (refine aix_n 5 rfl rfl ?_) | (refine aix_n 6 rfl rfl ?_) | (refine aix_n 7 rfl rfl ?_))
                | ((with_reducible refine iwr_in ?_ ?_); · (simp only [inI]; omega))
                | ((with_reducible refine need_i ?_ ?_); · (first | omega | (simp <;> omega))))
              intro _u; clear _u
              refine IRet.of ?_
              all_goals repeat' (first | exact True.intro | refine And.intro ?_ ?_ | (intro _u; clear _u) | (with_reducible refine fzEs_same ?_ ?_ ?_) | (with_reducible refine mtEs_same ?_ ?_))
              all_goals first | (with_reducible rfl) | omega | (simp; done) | (simp only [AV.namesL, AV.names, List.append_nil]; done) | (simp [AV.namesL]; done) | (simp [AV.namesL, AV.names]; done) | exact Or.inl (by decide) | (refine Or.inr ?_; (simp [AV.namesL, AV.names]; done)) | (refine Or.inr ?_; (simp [or_imp, forall_and, AV.namesL, AV.names]; done)) | skip
              simp [chk, h1, hno, h4]
            · repeat ((intro _u; clear _u); first
                | (with_reducible refine acnd_tt ?_)
                | (with_reducible refine acnd_ff ?_)
                | ((with_reducible refine IConf.mk ?_ ?_); · kernel_rfl)
                | (first | (refine aix_n 0 rfl rfl ?_) | (refine aix_n 1 rfl rfl ?_) | (refine aix_n 2 rfl rfl ?_) | (refine aix_n 3 rfl rfl ?_) | (refine aix_n 4 rfl rfl ?_) | (refine aix_n 5 rfl rfl ?_) | (refine aix_n 6 rfl rfl ?_) | (refine aix_n 7 rfl rfl ?_))
                | ((with_reducible refine iwr_in ?_ ?_); · (simp only [inI]; omega))
                | ((with_reducible refine need_i ?_ ?_); · (first | omega | (simp <;> omega))))
              intro _u; clear _u
              refine acnd_i (fun h5 => ?_) (fun h5 => ?_)
              all_goals repeat (first | simp only [decide_eq_true_eq] at h5 | simp only [decide_eq_false_iff_not] at h5 | simp only [beq_iff_eq] at h5 | simp only [bne_iff_ne] at h5 | simp only [beq_eq_false_iff_ne] at h5 | simp only [bne_eq_false_iff_eq] at h5 | simp only [Bool.not_eq_true'] at h5 | simp only [Bool.not_eq_false'] at h5 | simp only [Int.not_lt] at h5 | simp only [Int.not_le] at h5 | simp only [Bool.and_eq_true] at h5 | simp only [Bool.or_eq_true] at h5 | simp only [gt_iff_lt] at h5 | simp only [ge_iff_le] at h5 | simp only [ne_eq] at h5 | simp only [Decidable.not_not] at h5)
              · repeat ((intro _u; clear _u); first
                  | (with_reducible refine acnd_tt ?_)
                  | (with_reducible refine acnd_ff ?_)
                  | ((with_reducible refine IConf.mk ?_ ?_); · kernel_rfl)
                  | (first | (refine aix_n 0 rfl rfl ?_) | (refine aix_n 1 rfl rfl ?_) | (refine aix_n 2 rfl rfl ?_) | (refine aix_n 3 rfl rfl ?_) | (refine aix_n 4 rfl rfl ?_) | (refine aix_n 5 rfl rfl ?_) | (refine aix_n 6 rfl rfl ?_) | (refine aix_n 7 rfl rfl ?_))
                  | ((with_reducible refine iwr_in ?_ ?_); · (simp only [inI]; omega))
                  | ((with_reducible refine need_i ?_ ?_); · (first | omega | (simp <;> omega))))
                intro _u; clear _u
                refine IRet.of ?_
                all_goals repeat' (first | exact True.intro | refine And.intro ?_ ?_ | (intro _u; clear _u) | (with_reducible refine fzEs_same ?_ ?_ ?_) | (with_reducible refine mtEs_same ?_ ?_))
                all_goals first | (with_reducible rfl) | omega | (simp; done) | (simp only [AV.namesL, AV.names, List.append_nil]; done) | (simp [AV.namesL]; done) | (simp [AV.namesL, AV.names]; done) | exact Or.inl (by decide) | (refine Or.inr ?_; (simp [AV.namesL, AV.names]; done)) | (refine Or.inr ?_; (simp [or_imp, forall_and, AV.namesL, AV.names]; done)) | skip
                simp [chk, h1, hno]; omega
              · repeat ((intro _u; clear _u); first
                  | (with_reducible refine acnd_tt ?_)
                  | (with_reducible refine acnd_ff ?_)
                  | ((with_reducible refine IConf.mk ?_ ?_); · kernel_rfl)
                  | (first | (refine aix_n 0 rfl rfl ?_) | (refine aix_n 1 rfl rfl ?_) | (refine aix_n 2 rfl rfl ?_) | (refine aix_n 3 rfl rfl ?_) | (refine aix_n 4 rfl rfl ?_) | (refine aix_n 5 rfl rfl ?_) | (refine aix_n 6 rfl rfl ?_) | (refine aix_n 7 rfl rfl ?_))
                  | ((with_reducible refine iwr_in ?_ ?_); · (simp only [inI]; omega))
                  | ((with_reducible refine need_i ?_ ?_); · (first | omega | (simp <;> omega))))
                intro _u; clear _u
                refine ICall.pure h.n39.o39.hb (chunks_c h.n39 m.size hs) rfl ?_
                repeat ((intro _u; clear _u); first
                  | (with_reducible refine acnd_tt ?_)
                  | (with_reducible refine acnd_ff ?_)
                  | ((with_reducible refine IConf.mk ?_ ?_); · kernel_rfl)
                  | (first | (refine aix_n 0 rfl rfl ?_) | (refine aix_n 1 rfl rfl ?_) | (refine aix_n 2 rfl rfl ?_) | (refine aix_n 3 rfl rfl ?_) | (refine aix_n 4 rfl rfl ?_) | (refine aix_n 5 rfl rfl ?_) | (refine aix_n 6 rfl rfl ?_) | (refine aix_n 7 rfl rfl ?_))
                  | ((with_reducible refine iwr_in ?_ ?_); · (simp only [inI]; omega))
                  | ((with_reducible refine need_i ?_ ?_); · (first | omega | (simp <;> omega))))
                intro _u; clear _u
                refine acnd_i (fun h6 => ?_) (fun h6 => ?_)
                all_goals repeat (first | simp only [decide_eq_true_eq] at h6 | simp only [decide_eq_false_iff_not] at h6 | simp only [beq_iff_eq] at h6 | simp only [bne_iff_ne] at h6 | simp only [beq_eq_false_iff_ne] at h6 | simp only [bne_eq_false_iff_eq] at h6 | simp only [Bool.not_eq_true'] at h6 | simp only [Bool.not_eq_false'] at h6 | simp only [Int.not_lt] at h6 | simp only [Int.not_le] at h6 | simp only [Bool.and_eq_true] at h6 | simp only [Bool.or_eq_true] at h6 | simp only [gt_iff_lt] at h6 | simp only [ge_iff_le] at h6 | simp only [ne_eq] at h6 | simp only [Decidable.not_not] at h6)
                · repeat ((intro _u; clear _u); first
                    | (with_reducible refine acnd_tt ?_)
                    | (with_reducible refine acnd_ff ?_)
                    | ((with_reducible refine IConf.mk ?_ ?_); · kernel_rfl)
                    | (first | (refine aix_n 0 rfl rfl ?_) | (refine aix_n 1 rfl rfl ?_) | (refine aix_n 2 rfl rfl ?_) | (refine aix_n 3 rfl rfl ?_) | (refine aix_n 4 rfl rfl ?_) | (refine aix_n 5 rfl rfl ?_) | (refine aix_n 6 rfl rfl ?_) | (refine aix_n 7 rfl rfl ?_))
                    | ((with_reducible refine iwr_in ?_ ?_); · (simp only [inI]; omega))
                    | ((with_reducible refine need_i ?_ ?_); · (first | omega | (simp <;> omega))))
                  intro _u; clear _u
                  refine IRet.of ?_
                  all_goals repeat' (first | exact True.intro | refine And.intro ?_ ?_ | (intro _u; clear _u) | (with_reducible refine fzEs_same ?_ ?_ ?_) | (with_reducible refine mtEs_same ?_ ?_))
                  all_goals first | (with_reducible rfl) | omega | (simp; done) | (simp only [AV.namesL, AV.names, List.append_nil]; done) | (simp [AV.namesL]; done) | (simp [AV.namesL, AV.names]; done) | exact Or.inl (by decide) | (refine Or.inr ?_; (simp [AV.namesL, AV.names]; done)) | (refine Or.inr ?_; (simp [or_imp, forall_and, AV.namesL, AV.names]; done)) | skip
                  simp [chk, h1, hno, h6]; omega
                · repeat ((intro _u; clear _u); first
                    | (with_reducible refine acnd_tt ?_)
                    | (with_reducible refine acnd_ff ?_)
                    | ((with_reducible refine IConf.mk ?_ ?_); · kernel_rfl)
                    | (first | (refine aix_n 0 rfl rfl ?_) | (refine aix_n 1 rfl rfl ?_) | (refine aix_n 2 rfl rfl ?_) | (refine aix_n 3 rfl rfl ?_) | (refine aix_n 4 rfl rfl ?_) | (refine aix_n 5 rfl rfl ?_) | (refine aix_n 6 rfl rfl ?_) | (refine aix_n 7 rfl rfl ?_))
                    | ((with_reducible refine iwr_in ?_ ?_); · (simp only [inI]; omega))
                    | ((with_reducible refine need_i ?_ ?_); · (first | omega | (simp <;> omega))))
                  intro _u; clear _u
                  refine IRet.of ?_
                  all_goals repeat' (first | exact True.intro | refine And.intro ?_ ?_ | (intro _u; clear _u) | (with_reducible refine fzEs_same ?_ ?_ ?_) | (with_reducible refine mtEs_same ?_ ?_))
                  all_goals first | (with_reducible rfl) | omega | (simp; done) | (simp only [AV.namesL, AV.names, List.append_nil]; done) | (simp [AV.namesL]; done) | (simp [AV.namesL, AV.names]; done) | exact Or.inl (by decide) | (refine Or.inr ?_; (simp [AV.namesL, AV.names]; done)) | (refine Or.inr ?_; (simp [or_imp, forall_and, AV.namesL, AV.names]; done)) | skip
                  simp [chk, h1, hno, h6]; omega


theorem rchk_c {R : Env} (h : N42 R) (m : Mf) (hs : inI .i64 m.size) : R.Pc 42 [.agg m.row] (.int .i64 (chk m)) :=
  h.o42.enter 100 rfl fun X b hfit hp => by
    repeat ((intro _u; clear _u); first
      | (with_reducible refine acnd_tt ?_)
      | (with_reducible refine acnd_ff ?_)
      | ((with_reducible refine IConf.mk ?_ ?_); · kernel_rfl)
      | (first | (refine aix_n 0 rfl rfl ?_) | (refine aix_n 1 rfl rfl ?_) | (refine aix_n 2 rfl rfl ?_) | (refine aix_n 3 rfl rfl ?_) | (refine aix_n 4 rfl rfl ?_) | (refine aix_n 5 rfl rfl ?_) | (refine aix_n 6 rfl rfl ?_) | (refine aix_n 7 rfl rfl ?_))
      | ((with_reducible refine iwr_in ?_ ?_); · (simp only [inI]; omega))
      | ((with_reducible refine need_i ?_ ?_); · (first | omega | (simp <;> omega))))
    intro _u; clear _u
    refine ICall.pure h.n38.o38.hb (rcap_c h.n38 m.kind) rfl ?_
    repeat ((intro _u; clear _u); first
      | (with_reducible refine acnd_tt ?_)
      | (with_reducible refine acnd_ff ?_)
      | ((with_reducible refine IConf.mk ?_ ?_); · kernel_rfl)
      | (first | (refine aix_n 0 rfl rfl ?_) | (refine aix_n 1 rfl rfl ?_) | (refine aix_n 2 rfl rfl ?_) | (refine aix_n 3 rfl rfl ?_) | (refine aix_n 4 rfl rfl ?_) | (refine aix_n 5 rfl rfl ?_) | (refine aix_n 6 rfl rfl ?_) | (refine aix_n 7 rfl rfl ?_))
      | ((with_reducible refine iwr_in ?_ ?_); · (simp only [inI]; omega))
      | ((with_reducible refine need_i ?_ ?_); · (first | omega | (simp <;> omega))))
    intro _u; clear _u
    refine acnd_i (fun h1 => ?_) (fun h1 => ?_)
    all_goals repeat (first | simp only [decide_eq_true_eq] at h1 | simp only [decide_eq_false_iff_not] at h1 | simp only [beq_iff_eq] at h1 | simp only [bne_iff_ne] at h1 | simp only [beq_eq_false_iff_ne] at h1 | simp only [bne_eq_false_iff_eq] at h1 | simp only [Bool.not_eq_true'] at h1 | simp only [Bool.not_eq_false'] at h1 | simp only [Int.not_lt] at h1 | simp only [Int.not_le] at h1 | simp only [Bool.and_eq_true] at h1 | simp only [Bool.or_eq_true] at h1 | simp only [gt_iff_lt] at h1 | simp only [ge_iff_le] at h1 | simp only [ne_eq] at h1 | simp only [Decidable.not_not] at h1)
    · repeat ((intro _u; clear _u); first
        | (with_reducible refine acnd_tt ?_)
        | (with_reducible refine acnd_ff ?_)
        | ((with_reducible refine IConf.mk ?_ ?_); · kernel_rfl)
        | (first | (refine aix_n 0 rfl rfl ?_) | (refine aix_n 1 rfl rfl ?_) | (refine aix_n 2 rfl rfl ?_) | (refine aix_n 3 rfl rfl ?_) | (refine aix_n 4 rfl rfl ?_) | (refine aix_n 5 rfl rfl ?_) | (refine aix_n 6 rfl rfl ?_) | (refine aix_n 7 rfl rfl ?_))
        | ((with_reducible refine iwr_in ?_ ?_); · (simp only [inI]; omega))
        | ((with_reducible refine need_i ?_ ?_); · (first | omega | (simp <;> omega))))
      intro _u; clear _u
      refine IRet.of ?_
      all_goals repeat' (first | exact True.intro | refine And.intro ?_ ?_ | (intro _u; clear _u) | (with_reducible refine fzEs_same ?_ ?_ ?_) | (with_reducible refine mtEs_same ?_ ?_))
      all_goals first | (with_reducible rfl) | omega | (simp; done) | (simp only [AV.namesL, AV.names, List.append_nil]; done) | (simp [AV.namesL]; done) | (simp [AV.namesL, AV.names]; done) | exact Or.inl (by decide) | (refine Or.inr ?_; (simp [AV.namesL, AV.names]; done)) | (refine Or.inr ?_; (simp [or_imp, forall_and, AV.namesL, AV.names]; done)) | skip
      simp [chk, h1]
    · repeat ((intro _u; clear _u); first
        | (with_reducible refine acnd_tt ?_)
        | (with_reducible refine acnd_ff ?_)
        | ((with_reducible refine IConf.mk ?_ ?_); · kernel_rfl)
        | (first | (refine aix_n 0 rfl rfl ?_) | (refine aix_n 1 rfl rfl ?_) | (refine aix_n 2 rfl rfl ?_) | (refine aix_n 3 rfl rfl ?_) | (refine aix_n 4 rfl rfl ?_) | (refine aix_n 5 rfl rfl ?_) | (refine aix_n 6 rfl rfl ?_) | (refine aix_n 7 rfl rfl ?_))
        | ((with_reducible refine iwr_in ?_ ?_); · (simp only [inI]; omega))
        | ((with_reducible refine need_i ?_ ?_); · (first | omega | (simp <;> omega))))
      intro _u; clear _u
      refine ILoop.inv 100 (fun i : Nat => i ≤ 8 ∧ ∀ j, j < i → m.mask j ≤ 15) (fun i => ⟨[(1, .loc 0 1 0 0), (3, .int .i64 i)], [(0, .var (R.ty 2) m.row)], 1⟩) (fun i => 8 - i) (0) ?_ ⟨⟨_, hp, rfl⟩, ?_, ?_⟩ ?_
      · exact ⟨by omega, fun j hj => by omega⟩
      · all_goals repeat' (first | exact True.intro | refine And.intro ?_ ?_ | (intro _u; clear _u) | (with_reducible refine fzEs_same ?_ ?_ ?_) | (with_reducible refine mtEs_same ?_ ?_))
        all_goals first | (with_reducible rfl) | omega | (simp; done) | (simp only [AV.namesL, AV.names, List.append_nil]; done) | (simp [AV.namesL]; done) | (simp [AV.namesL, AV.names]; done) | exact Or.inl (by decide) | (refine Or.inr ?_; (simp [AV.namesL, AV.names]; done)) | (refine Or.inr ?_; (simp [or_imp, forall_and, AV.namesL, AV.names]; done)) | skip
      · all_goals repeat' (first | exact True.intro | refine And.intro ?_ ?_ | (intro _u; clear _u) | (with_reducible refine fzEs_same ?_ ?_ ?_) | (with_reducible refine mtEs_same ?_ ?_))
        all_goals first | (with_reducible rfl) | omega | (simp; done) | (simp only [AV.namesL, AV.names, List.append_nil]; done) | (simp [AV.namesL]; done) | (simp [AV.namesL, AV.names]; done) | exact Or.inl (by decide) | (refine Or.inr ?_; (simp [AV.namesL, AV.names]; done)) | (refine Or.inr ?_; (simp [or_imp, forall_and, AV.namesL, AV.names]; done)) | skip
      · rintro i ⟨hi, hm⟩
        dsimp only
        repeat ((intro _u; clear _u); first
          | (with_reducible refine acnd_tt ?_)
          | (with_reducible refine acnd_ff ?_)
          | ((with_reducible refine IConf.mk ?_ ?_); · kernel_rfl)
          | (first | (refine aix_n 0 rfl rfl ?_) | (refine aix_n 1 rfl rfl ?_) | (refine aix_n 2 rfl rfl ?_) | (refine aix_n 3 rfl rfl ?_) | (refine aix_n 4 rfl rfl ?_) | (refine aix_n 5 rfl rfl ?_) | (refine aix_n 6 rfl rfl ?_) | (refine aix_n 7 rfl rfl ?_))
          | ((with_reducible refine iwr_in ?_ ?_); · (simp only [inI]; omega))
          | ((with_reducible refine need_i ?_ ?_); · (first | omega | (simp <;> omega))))
        intro _u; clear _u
        refine acnd_i (fun h2 => ?_) (fun h2 => ?_)
        all_goals repeat (first | simp only [decide_eq_true_eq] at h2 | simp only [decide_eq_false_iff_not] at h2 | simp only [beq_iff_eq] at h2 | simp only [bne_iff_ne] at h2 | simp only [beq_eq_false_iff_ne] at h2 | simp only [bne_eq_false_iff_eq] at h2 | simp only [Bool.not_eq_true'] at h2 | simp only [Bool.not_eq_false'] at h2 | simp only [Int.not_lt] at h2 | simp only [Int.not_le] at h2 | simp only [Bool.and_eq_true] at h2 | simp only [Bool.or_eq_true] at h2 | simp only [gt_iff_lt] at h2 | simp only [ge_iff_le] at h2 | simp only [ne_eq] at h2 | simp only [Decidable.not_not] at h2)
        · repeat ((intro _u; clear _u); first
            | (with_reducible refine acnd_tt ?_)
            | (with_reducible refine acnd_ff ?_)
            | ((with_reducible refine IConf.mk ?_ ?_); · kernel_rfl)
            | (first | (refine aix_n 0 rfl rfl ?_) | (refine aix_n 1 rfl rfl ?_) | (refine aix_n 2 rfl rfl ?_) | (refine aix_n 3 rfl rfl ?_) | (refine aix_n 4 rfl rfl ?_) | (refine aix_n 5 rfl rfl ?_) | (refine aix_n 6 rfl rfl ?_) | (refine aix_n 7 rfl rfl ?_))
            | ((with_reducible refine iwr_in ?_ ?_); · (simp only [inI]; omega))
            | ((with_reducible refine need_i ?_ ?_); · (first | omega | (simp <;> omega))))
          intro _u; clear _u
          obtain ⟨j, hj⟩ : ∃ j, j = i := ⟨i, rfl⟩
          have hj8 : j < 8 := by omega
          obtain h9 | h9 | h9 | h9 | h9 | h9 | h9 | h9 : i = 0 ∨ i = 1 ∨ i = 2 ∨ i = 3 ∨ i = 4 ∨ i = 5 ∨ i = 6 ∨ i = 7 := by omega
          all_goals subst h9
          · refine aix_n 0 rfl rfl ?_
            repeat ((intro _u; clear _u); first
              | (with_reducible refine acnd_tt ?_)
              | (with_reducible refine acnd_ff ?_)
              | ((with_reducible refine IConf.mk ?_ ?_); · kernel_rfl)
              | (first | (refine aix_n 0 rfl rfl ?_) | (refine aix_n 1 rfl rfl ?_) | (refine aix_n 2 rfl rfl ?_) | (refine aix_n 3 rfl rfl ?_) | (refine aix_n 4 rfl rfl ?_) | (refine aix_n 5 rfl rfl ?_) | (refine aix_n 6 rfl rfl ?_) | (refine aix_n 7 rfl rfl ?_))
              | ((with_reducible refine iwr_in ?_ ?_); · (simp only [inI]; omega))
              | ((with_reducible refine need_i ?_ ?_); · (first | omega | (simp <;> omega))))
            intro _u; clear _u
            refine acnd_i (fun h3 => ?_) (fun h3 => ?_)
            all_goals repeat (first | simp only [decide_eq_true_eq] at h3 | simp only [decide_eq_false_iff_not] at h3 | simp only [beq_iff_eq] at h3 | simp only [bne_iff_ne] at h3 | simp only [beq_eq_false_iff_ne] at h3 | simp only [bne_eq_false_iff_eq] at h3 | simp only [Bool.not_eq_true'] at h3 | simp only [Bool.not_eq_false'] at h3 | simp only [Int.not_lt] at h3 | simp only [Int.not_le] at h3 | simp only [Bool.and_eq_true] at h3 | simp only [Bool.or_eq_true] at h3 | simp only [gt_iff_lt] at h3 | simp only [ge_iff_le] at h3 | simp only [ne_eq] at h3 | simp only [Decidable.not_not] at h3)
            · repeat ((intro _u; clear _u); first
                | (with_reducible refine acnd_tt ?_)
                | (with_reducible refine acnd_ff ?_)
                | ((with_reducible refine IConf.mk ?_ ?_); · kernel_rfl)
                | (first | (refine aix_n 0 rfl rfl ?_) | (refine aix_n 1 rfl rfl ?_) | (refine aix_n 2 rfl rfl ?_) | (refine aix_n 3 rfl rfl ?_) | (refine aix_n 4 rfl rfl ?_) | (refine aix_n 5 rfl rfl ?_) | (refine aix_n 6 rfl rfl ?_) | (refine aix_n 7 rfl rfl ?_))
                | ((with_reducible refine iwr_in ?_ ?_); · (simp only [inI]; omega))
                | ((with_reducible refine need_i ?_ ?_); · (first | omega | (simp <;> omega))))
              intro _u; clear _u
              refine IRet.of ?_
              all_goals repeat' (first | exact True.intro | refine And.intro ?_ ?_ | (intro _u; clear _u) | (with_reducible refine fzEs_same ?_ ?_ ?_) | (with_reducible refine mtEs_same ?_ ?_))
              all_goals first | (with_reducible rfl) | omega | (simp; done) | (simp only [AV.namesL, AV.names, List.append_nil]; done) | (simp [AV.namesL]; done) | (simp [AV.namesL, AV.names]; done) | exact Or.inl (by decide) | (refine Or.inr ?_; (simp [AV.namesL, AV.names]; done)) | (refine Or.inr ?_; (simp [or_imp, forall_and, AV.namesL, AV.names]; done)) | skip
              have : m.high = true := Mf.high_t hj8 (show 15 < m.mask j by rw [hj]; exact Int.lt_of_lt_of_le (by decide : (15 : Int) < 16) h3)
              simp [chk, h1, this]
            · repeat ((intro _u; clear _u); first
                | (with_reducible refine acnd_tt ?_)
                | (with_reducible refine acnd_ff ?_)
                | ((with_reducible refine IConf.mk ?_ ?_); · kernel_rfl)
                | (first | (refine aix_n 0 rfl rfl ?_) | (refine aix_n 1 rfl rfl ?_) | (refine aix_n 2 rfl rfl ?_) | (refine aix_n 3 rfl rfl ?_) | (refine aix_n 4 rfl rfl ?_) | (refine aix_n 5 rfl rfl ?_) | (refine aix_n 6 rfl rfl ?_) | (refine aix_n 7 rfl rfl ?_))
                | ((with_reducible refine iwr_in ?_ ?_); · (simp only [inI]; omega))
                | ((with_reducible refine need_i ?_ ?_); · (first | omega | (simp <;> omega))))
              intro _u; clear _u
              refine ⟨j + 1, ?_, ?_, ⟨_, hp, rfl⟩, ?_, ?_⟩
              · refine ⟨by omega, fun q hq => ?_⟩
                by_cases e : q = j
                · rw [e, hj]; exact Int.lt_add_one_iff.1 h3
                · exact hm q (by omega)
              · omega
              · all_goals repeat' (first | exact True.intro | refine And.intro ?_ ?_ | (intro _u; clear _u) | (with_reducible refine fzEs_same ?_ ?_ ?_) | (with_reducible refine mtEs_same ?_ ?_))
                all_goals first | (with_reducible rfl) | omega | (simp; done) | (simp only [AV.namesL, AV.names, List.append_nil]; done) | (simp [AV.namesL]; done) | (simp [AV.namesL, AV.names]; done) | exact Or.inl (by decide) | (refine Or.inr ?_; (simp [AV.namesL, AV.names]; done)) | (refine Or.inr ?_; (simp [or_imp, forall_and, AV.namesL, AV.names]; done)) | skip
              · all_goals repeat' (first | exact True.intro | refine And.intro ?_ ?_ | (intro _u; clear _u) | (with_reducible refine fzEs_same ?_ ?_ ?_) | (with_reducible refine mtEs_same ?_ ?_))
                all_goals first | (with_reducible rfl) | omega | (simp; done) | (simp only [AV.namesL, AV.names, List.append_nil]; done) | (simp [AV.namesL]; done) | (simp [AV.namesL, AV.names]; done) | exact Or.inl (by decide) | (refine Or.inr ?_; (simp [AV.namesL, AV.names]; done)) | (refine Or.inr ?_; (simp [or_imp, forall_and, AV.namesL, AV.names]; done)) | skip
          · refine aix_n 1 rfl rfl ?_
            repeat ((intro _u; clear _u); first
              | (with_reducible refine acnd_tt ?_)
              | (with_reducible refine acnd_ff ?_)
              | ((with_reducible refine IConf.mk ?_ ?_); · kernel_rfl)
              | (first | (refine aix_n 0 rfl rfl ?_) | (refine aix_n 1 rfl rfl ?_) | (refine aix_n 2 rfl rfl ?_) | (refine aix_n 3 rfl rfl ?_) | (refine aix_n 4 rfl rfl ?_) | (refine aix_n 5 rfl rfl ?_) | (refine aix_n 6 rfl rfl ?_) | (refine aix_n 7 rfl rfl ?_))
              | ((with_reducible refine iwr_in ?_ ?_); · (simp only [inI]; omega))
              | ((with_reducible refine need_i ?_ ?_); · (first | omega | (simp <;> omega))))
            intro _u; clear _u
            refine acnd_i (fun h3 => ?_) (fun h3 => ?_)
            all_goals repeat (first | simp only [decide_eq_true_eq] at h3 | simp only [decide_eq_false_iff_not] at h3 | simp only [beq_iff_eq] at h3 | simp only [bne_iff_ne] at h3 | simp only [beq_eq_false_iff_ne] at h3 | simp only [bne_eq_false_iff_eq] at h3 | simp only [Bool.not_eq_true'] at h3 | simp only [Bool.not_eq_false'] at h3 | simp only [Int.not_lt] at h3 | simp only [Int.not_le] at h3 | simp only [Bool.and_eq_true] at h3 | simp only [Bool.or_eq_true] at h3 | simp only [gt_iff_lt] at h3 | simp only [ge_iff_le] at h3 | simp only [ne_eq] at h3 | simp only [Decidable.not_not] at h3)
            · repeat ((intro _u; clear _u); first
                | (with_reducible refine acnd_tt ?_)
                | (with_reducible refine acnd_ff ?_)
                | ((with_reducible refine IConf.mk ?_ ?_); · kernel_rfl)
                | (first | (refine aix_n 0 rfl rfl ?_) | (refine aix_n 1 rfl rfl ?_) | (refine aix_n 2 rfl rfl ?_) | (refine aix_n 3 rfl rfl ?_) | (refine aix_n 4 rfl rfl ?_) | (refine aix_n 5 rfl rfl ?_) | (refine aix_n 6 rfl rfl ?_) | (refine aix_n 7 rfl rfl ?_))
                | ((with_reducible refine iwr_in ?_ ?_); · (simp only [inI]; omega))
                | ((with_reducible refine need_i ?_ ?_); · (first | omega | (simp <;> omega))))
              intro _u; clear _u
              refine IRet.of ?_
              all_goals repeat' (first | exact True.intro | refine And.intro ?_ ?_ | (intro _u; clear _u) | (with_reducible refine fzEs_same ?_ ?_ ?_) | (with_reducible refine mtEs_same ?_ ?_))
              all_goals first | (with_reducible rfl) | omega | (simp; done) | (simp only [AV.namesL, AV.names, List.append_nil]; done) | (simp [AV.namesL]; done) | (simp [AV.namesL, AV.names]; done) | exact Or.inl (by decide) | (refine Or.inr ?_; (simp [AV.namesL, AV.names]; done)) | (refine Or.inr ?_; (simp [or_imp, forall_and, AV.namesL, AV.names]; done)) | skip
              have : m.high = true := Mf.high_t hj8 (show 15 < m.mask j by rw [hj]; exact Int.lt_of_lt_of_le (by decide : (15 : Int) < 16) h3)
              simp [chk, h1, this]
            · repeat ((intro _u; clear _u); first
                | (with_reducible refine acnd_tt ?_)
                | (with_reducible refine acnd_ff ?_)
                | ((with_reducible refine IConf.mk ?_ ?_); · kernel_rfl)
                | (first | (refine aix_n 0 rfl rfl ?_) | (refine aix_n 1 rfl rfl ?_) | (refine aix_n 2 rfl rfl ?_) | (refine aix_n 3 rfl rfl ?_) | (refine aix_n 4 rfl rfl ?_) | (refine aix_n 5 rfl rfl ?_) | (refine aix_n 6 rfl rfl ?_) | (refine aix_n 7 rfl rfl ?_))
                | ((with_reducible refine iwr_in ?_ ?_); · (simp only [inI]; omega))
                | ((with_reducible refine need_i ?_ ?_); · (first | omega | (simp <;> omega))))
              intro _u; clear _u
              refine ⟨j + 1, ?_, ?_, ⟨_, hp, rfl⟩, ?_, ?_⟩
              · refine ⟨by omega, fun q hq => ?_⟩
                by_cases e : q = j
                · rw [e, hj]; exact Int.lt_add_one_iff.1 h3
                · exact hm q (by omega)
              · omega
              · all_goals repeat' (first | exact True.intro | refine And.intro ?_ ?_ | (intro _u; clear _u) | (with_reducible refine fzEs_same ?_ ?_ ?_) | (with_reducible refine mtEs_same ?_ ?_))
                all_goals first | (with_reducible rfl) | omega | (simp; done) | (simp only [AV.namesL, AV.names, List.append_nil]; done) | (simp [AV.namesL]; done) | (simp [AV.namesL, AV.names]; done) | exact Or.inl (by decide) | (refine Or.inr ?_; (simp [AV.namesL, AV.names]; done)) | (refine Or.inr ?_; (simp [or_imp, forall_and, AV.namesL, AV.names]; done)) | skip
              · all_goals repeat' (first | exact True.intro | refine And.intro ?_ ?_ | (intro _u; clear _u) | (with_reducible refine fzEs_same ?_ ?_ ?_) | (with_reducible refine mtEs_same ?_ ?_))
                all_goals first | (with_reducible rfl) | omega | (simp; done) | (simp only [AV.namesL, AV.names, List.append_nil]; done) | (simp [AV.namesL]; done) | (simp [AV.namesL, AV.names]; done) | exact Or.inl (by decide) | (refine Or.inr ?_; (simp [AV.namesL, AV.names]; done)) | (refine Or.inr ?_; (simp [or_imp, forall_and, AV.namesL, AV.names]; done)) | skip
          · refine aix_n 2 rfl rfl ?_
            repeat ((intro _u; clear _u); first
              | (with_reducible refine acnd_tt ?_)
              | (with_reducible refine acnd_ff ?_)
              | ((with_reducible refine IConf.mk ?_ ?_); · kernel_rfl)
              | (first | (refine aix_n 0 rfl rfl ?_) | (refine aix_n 1 rfl rfl ?_) | (refine aix_n 2 rfl rfl ?_) | (refine aix_n 3 rfl rfl ?_) | (refine aix_n 4 rfl rfl ?_) | (refine aix_n 5 rfl rfl ?_) | (refine aix_n 6 rfl rfl ?_) | (refine aix_n 7 rfl rfl ?_))
              | ((with_reducible refine iwr_in ?_ ?_); · (simp only [inI]; omega))
              | ((with_reducible refine need_i ?_ ?_); · (first | omega | (simp <;> omega))))
            intro _u; clear _u
            refine acnd_i (fun h3 => ?_) (fun h3 => ?_)
            all_goals repeat (first | simp only [decide_eq_true_eq] at h3 | simp only [decide_eq_false_iff_not] at h3 | simp only [beq_iff_eq] at h3 | simp only [bne_iff_ne] at h3 | simp only [beq_eq_false_iff_ne] at h3 | simp only [bne_eq_false_iff_eq] at h3 | simp only [Bool.not_eq_true'] at h3 | simp only [Bool.not_eq_false'] at h3 | simp only [Int.not_lt] at h3 | simp only [Int.not_le] at h3 | simp only [Bool.and_eq_true] at h3 | simp only [Bool.or_eq_true] at h3 | simp only [gt_iff_lt] at h3 | simp only [ge_iff_le] at h3 | simp only [ne_eq] at h3 | simp only [Decidable.not_not] at h3)
            · repeat ((intro _u; clear _u); first
                | (with_reducible refine acnd_tt ?_)
                | (with_reducible refine acnd_ff ?_)
                | ((with_reducible refine IConf.mk ?_ ?_); · kernel_rfl)
                | (first | (refine aix_n 0 rfl rfl ?_) | (refine aix_n 1 rfl rfl ?_) | (refine aix_n 2 rfl rfl ?_) | (refine aix_n 3 rfl rfl ?_) | (refine aix_n 4 rfl rfl ?_) | (refine aix_n 5 rfl rfl ?_) | (refine aix_n 6 rfl rfl ?_) | (refine aix_n 7 rfl rfl ?_))
                | ((with_reducible refine iwr_in ?_ ?_); · (simp only [inI]; omega))
                | ((with_reducible refine need_i ?_ ?_); · (first | omega | (simp <;> omega))))
              intro _u; clear _u
              refine IRet.of ?_
              all_goals repeat' (first | exact True.intro | refine And.intro ?_ ?_ | (intro _u; clear _u) | (with_reducible refine fzEs_same ?_ ?_ ?_) | (with_reducible refine mtEs_same ?_ ?_))
              all_goals first | (with_reducible rfl) | omega | (simp; done) | (simp only [AV.namesL, AV.names, List.append_nil]; done) | (simp [AV.namesL]; done) | (simp [AV.namesL, AV.names]; done) | exact Or.inl (by decide) | (refine Or.inr ?_; (simp [AV.namesL, AV.names]; done)) | (refine Or.inr ?_; (simp [or_imp, forall_and, AV.namesL, AV.names]; done)) | skip
              have : m.high = true := Mf.high_t hj8 (show 15 < m.mask j by rw [hj]; exact Int.lt_of_lt_of_le (by decide : (15 : Int) < 16) h3)
              simp [chk, h1, this]
            · repeat ((intro _u; clear _u); first
                | (with_reducible refine acnd_tt ?_)
                | (with_reducible refine acnd_ff ?_)
                | ((with_reducible refine IConf.mk ?_ ?_); · kernel_rfl)
                | (first | (refine aix_n 0 rfl rfl ?_) | (refine aix_n 1 rfl rfl ?_) | (refine aix_n 2 rfl rfl ?_) | (refine aix_n 3 rfl rfl ?_) | (refine aix_n 4 rfl rfl ?_) | (refine aix_n 5 rfl rfl ?_) | (refine aix_n 6 rfl rfl ?_) | (refine aix_n 7 rfl rfl ?_))
                | ((with_reducible refine iwr_in ?_ ?_); · (simp only [inI]; omega))
                | ((with_reducible refine need_i ?_ ?_); · (first | omega | (simp <;> omega))))
              intro _u; clear _u
              refine ⟨j + 1, ?_, ?_, ⟨_, hp, rfl⟩, ?_, ?_⟩
              · refine ⟨by omega, fun q hq => ?_⟩
                by_cases e : q = j
                · rw [e, hj]; exact Int.lt_add_one_iff.1 h3
                · exact hm q (by omega)
              · omega
              · all_goals repeat' (first | exact True.intro | refine And.intro ?_ ?_ | (intro _u; clear _u) | (with_reducible refine fzEs_same ?_ ?_ ?_) | (with_reducible refine mtEs_same ?_ ?_))
                all_goals first | (with_reducible rfl) | omega | (simp; done) | (simp only [AV.namesL, AV.names, List.append_nil]; done) | (simp [AV.namesL]; done) | (simp [AV.namesL, AV.names]; done) | exact Or.inl (by decide) | (refine Or.inr ?_; (simp [AV.namesL, AV.names]; done)) | (refine Or.inr ?_; (simp [or_imp, forall_and, AV.namesL, AV.names]; done)) | skip
              · all_goals repeat' (first | exact True.intro | refine And.intro ?_ ?_ | (intro _u; clear _u) | (with_reducible refine fzEs_same ?_ ?_ ?_) | (with_reducible refine mtEs_same ?_ ?_))
                all_goals first | (with_reducible rfl) | omega | (simp; done) | (simp only [AV.namesL, AV.names, List.append_nil]; done) | (simp [AV.namesL]; done) | (simp [AV.namesL, AV.names]; done) | exact Or.inl (by decide) | (refine Or.inr ?_; (simp [AV.namesL, AV.names]; done)) | (refine Or.inr ?_; (simp [or_imp, forall_and, AV.namesL, AV.names]; done)) | skip
          · refine aix_n 3 rfl rfl ?_
            repeat ((intro _u; clear _u); first
              | (with_reducible refine acnd_tt ?_)
              | (with_reducible refine acnd_ff ?_)
              | ((with_reducible refine IConf.mk ?_ ?_); · kernel_rfl)
              | (first | (refine aix_n 0 rfl rfl ?_) | (refine aix_n 1 rfl rfl ?_) | (refine aix_n 2 rfl rfl ?_) | (refine aix_n 3 rfl rfl ?_) | (refine aix_n 4 rfl rfl ?_) | (refine aix_n 5 rfl rfl ?_) | (refine aix_n 6 rfl rfl ?_) | (refine aix_n 7 rfl rfl ?_))
              | ((with_reducible refine iwr_in ?_ ?_); · (simp only [inI]; omega))
              | ((with_reducible refine need_i ?_ ?_); · (first | omega | (simp <;> omega))))
            intro _u; clear _u
            refine acnd_i (fun h3 => ?_) (fun h3 => ?_)
            all_goals repeat (first | simp only [decide_eq_true_eq] at h3 | simp only [decide_eq_false_iff_not] at h3 | simp only [beq_iff_eq] at h3 | simp only [bne_iff_ne] at h3 | simp only [beq_eq_false_iff_ne] at h3 | simp only [bne_eq_false_iff_eq] at h3 | simp only [Bool.not_eq_true'] at h3 | simp only [Bool.not_eq_false'] at h3 | simp only [Int.not_lt] at h3 | simp only [Int.not_le] at h3 | simp only [Bool.and_eq_true] at h3 | simp only [Bool.or_eq_true] at h3 | simp only [gt_iff_lt] at h3 | simp only [ge_iff_le] at h3 | simp only [ne_eq] at h3 | simp only [Decidable.not_not] at h3)
            · repeat ((intro _u; clear _u); first
                | (with_reducible refine acnd_tt ?_)
                | (with_reducible refine acnd_ff ?_)
                | ((with_reducible refine IConf.mk ?_ ?_); · kernel_rfl)
                | (first | (refine aix_n 0 rfl rfl ?_) | (refine aix_n 1 rfl rfl ?_) | (refine aix_n 2 rfl rfl ?_) | (refine aix_n 3 rfl rfl ?_) | (refine aix_n 4 rfl rfl ?_) | (refine aix_n 5 rfl rfl ?_) | (refine aix_n 6 rfl rfl ?_) | (refine aix_n 7 rfl rfl ?_))
                | ((with_reducible refine iwr_in ?_ ?_); · (simp only [inI]; omega))
                | ((with_reducible refine need_i ?_ ?_); · (first | omega | (simp <;> omega))))
              intro _u; clear _u
              refine IRet.of ?_
              all_goals repeat' (first | exact True.intro | refine And.intro ?_ ?_ | (intro _u; clear _u) | (with_reducible refine fzEs_same ?_ ?_ ?_) | (with_reducible refine mtEs_same ?_ ?_))
              all_goals first | (with_reducible rfl) | omega | (simp; done) | (simp only [AV.namesL, AV.names, List.append_nil]; done) | (simp [AV.namesL]; done) | (simp [AV.namesL, AV.names]; done) | exact Or.inl (by decide) | (refine Or.inr ?_; (simp [AV.namesL, AV.names]; done)) | (refine Or.inr ?_; (simp [or_imp, forall_and, AV.namesL, AV.names]; done)) | skip
              have : m.high = true := Mf.high_t hj8 (show 15 < m.mask j by rw [hj]; exact Int.lt_of_lt_of_le (by decide : (15 : Int) < 16) h3)
              simp [chk, h1, this]
            · repeat ((intro _u; clear _u); first
                | (with_reducible refine acnd_tt ?_)
                | (with_reducible refine acnd_ff ?_)
                | ((with_reducible refine IConf.mk ?_ ?_); · kernel_rfl)
                | (first | (refine aix_n 0 rfl rfl ?_) | (refine aix_n 1 rfl rfl ?_) | (refine aix_n 2 rfl rfl ?_) | (refine aix_n 3 rfl rfl ?_) | (refine aix_n 4 rfl rfl ?_) | (refine aix_n 5 rfl rfl ?_) | (refine aix_n 6 rfl rfl ?_) | (refine aix_n 7 rfl rfl ?_))
                | ((with_reducible refine iwr_in ?_ ?_); · (simp only [inI]; omega))
                | ((with_reducible refine need_i ?_ ?_); · (first | omega | (simp <;> omega))))
              intro _u; clear _u
              refine ⟨j + 1, ?_, ?_, ⟨_, hp, rfl⟩, ?_, ?_⟩
              · refine ⟨by omega, fun q hq => ?_⟩
                by_cases e : q = j
                · rw [e, hj]; exact Int.lt_add_one_iff.1 h3
                · exact hm q (by omega)
              · omega
              · all_goals repeat' (first | exact True.intro | refine And.intro ?_ ?_ | (intro _u; clear _u) | (with_reducible refine fzEs_same ?_ ?_ ?_) | (with_reducible refine mtEs_same ?_ ?_))
                all_goals first | (with_reducible rfl) | omega | (simp; done) | (simp only [AV.namesL, AV.names, List.append_nil]; done) | (simp [AV.namesL]; done) | (simp [AV.namesL, AV.names]; done) | exact Or.inl (by decide) | (refine Or.inr ?_; (simp [AV.namesL, AV.names]; done)) | (refine Or.inr ?_; (simp [or_imp, forall_and, AV.namesL, AV.names]; done)) | skip
              · all_goals repeat' (first | exact True.intro | refine And.intro ?_ ?_ | (intro _u; clear _u) | (with_reducible refine fzEs_same ?_ ?_ ?_) | (with_reducible refine mtEs_same ?_ ?_))
                all_goals first | (with_reducible rfl) | omega | (simp; done) | (simp only [AV.namesL, AV.names, List.append_nil]; done) | (simp [AV.namesL]; done) | (simp [AV.namesL, AV.names]; done) | exact Or.inl (by decide) | (refine Or.inr ?_; (simp [AV.namesL, AV.names]; done)) | (refine Or.inr ?_; (simp [or_imp, forall_and, AV.namesL, AV.names]; done)) | skip
          · refine aix_n 4 rfl rfl ?_
            repeat ((intro _u; clear _u); first
              | (with_reducible refine acnd_tt ?_)
              | (with_reducible refine acnd_ff ?_)
              | ((with_reducible refine IConf.mk ?_ ?_); · kernel_rfl)
              | (first | (refine aix_n 0 rfl rfl ?_) | (refine aix_n 1 rfl rfl ?_) | (refine aix_n 2 rfl rfl ?_) | (refine aix_n 3 rfl rfl ?_) | (refine aix_n 4 rfl rfl ?_) | (refine aix_n 5 rfl rfl ?_) | (refine aix_n 6 rfl rfl ?_) | (refine aix_n 7 rfl rfl ?_))
              | ((with_reducible refine iwr_in ?_ ?_); · (simp only [inI]; omega))
              | ((with_reducible refine need_i ?_ ?_); · (first | omega | (simp <;> omega))))
            intro _u; clear _u
            refine acnd_i (fun h3 => ?_) (fun h3 => ?_)
            all_goals repeat (first | simp only [decide_eq_true_eq] at h3 | simp only [decide_eq_false_iff_not] at h3 | simp only [beq_iff_eq] at h3 | simp only [bne_iff_ne] at h3 | simp only [beq_eq_false_iff_ne] at h3 | simp only [bne_eq_false_iff_eq] at h3 | simp only [Bool.not_eq_true'] at h3 | simp only [Bool.not_eq_false'] at h3 | simp only [Int.not_lt] at h3 | simp only [Int.not_le] at h3 | simp only [Bool.and_eq_true] at h3 | simp only [Bool.or_eq_true] at h3 | simp only [gt_iff_lt] at h3 | simp only [ge_iff_le] at h3 | simp only [ne_eq] at h3 | simp only [Decidable.not_not] at h3)
            · repeat ((intro _u; clear _u); first
                | (with_reducible refine acnd_tt ?_)
                | (with_reducible refine acnd_ff ?_)
                | ((with_reducible refine IConf.mk ?_ ?_); · kernel_rfl)
                | (first | (refine aix_n 0 rfl rfl ?_) | (refine aix_n 1 rfl rfl ?_) | (refine aix_n 2 rfl rfl ?_) | (refine aix_n 3 rfl rfl ?_) | (refine aix_n 4 rfl rfl ?_) | (refine aix_n 5 rfl rfl ?_) | (refine aix_n 6 rfl rfl ?_) | (refine aix_n 7 rfl rfl ?_))
                | ((with_reducible refine iwr_in ?_ ?_); · (simp only [inI]; omega))
                | ((with_reducible refine need_i ?_ ?_); · (first | omega | (simp <;> omega))))
              intro _u; clear _u
              refine IRet.of ?_
              all_goals repeat' (first | exact True.intro | refine And.intro ?_ ?_ | (intro _u; clear _u) | (with_reducible refine fzEs_same ?_ ?_ ?_) | (with_reducible refine mtEs_same ?_ ?_))
              all_goals first | (with_reducible rfl) | omega | (simp; done) | (simp only [AV.namesL, AV.names, List.append_nil]; done) | (simp [AV.namesL]; done) | (simp [AV.namesL, AV.names]; done) | exact Or.inl (by decide) | (refine Or.inr ?_; (simp [AV.namesL, AV.names]; done)) | (refine Or.inr ?_; (simp [or_imp, forall_and, AV.namesL, AV.names]; done)) | skip
              have : m.high = true := Mf.high_t hj8 (show 15 < m.mask j by rw [hj]; exact Int.lt_of_lt_of_le (by decide : (15 : Int) < 16) h3)
              simp [chk, h1, this]
            · repeat ((intro _u; clear _u); first
                | (with_reducible refine acnd_tt ?_)
                | (with_reducible refine acnd_ff ?_)
                | ((with_reducible refine IConf.mk ?_ ?_); · kernel_rfl)
                | (first | (refine aix_n 0 rfl rfl ?_) | (refine aix_n 1 rfl rfl ?_) | (refine aix_n 2 rfl rfl ?_) | (refine aix_n 3 rfl rfl ?_) | (refine aix_n 4 rfl rfl ?_) | (refine aix_n 5 rfl rfl ?_) | (refine aix_n 6 rfl rfl ?_) | (refine aix_n 7 rfl rfl ?_))
                | ((with_reducible refine iwr_in ?_ ?_); · (simp only [inI]; omega))
                | ((with_reducible refine need_i ?_ ?_); · (first | omega | (simp <;> omega))))
              intro _u; clear _u
              refine ⟨j + 1, ?_, ?_, ⟨_, hp, rfl⟩, ?_, ?_⟩
              · refine ⟨by omega, fun q hq => ?_⟩
                by_cases e : q = j
                · rw [e, hj]; exact Int.lt_add_one_iff.1 h3
                · exact hm q (by omega)
              · omega
              · all_goals repeat' (first | exact True.intro | refine And.intro ?_ ?_ | (intro _u; clear _u) | (with_reducible refine fzEs_same ?_ ?_ ?_) | (with_reducible refine mtEs_same ?_ ?_))
                all_goals first | (with_reducible rfl) | omega | (simp; done) | (simp only [AV.namesL, AV.names, List.append_nil]; done) | (simp [AV.namesL]; done) | (simp [AV.namesL, AV.names]; done) | exact Or.inl (by decide) | (refine Or.inr ?_; (simp [AV.namesL, AV.names]; done)) | (refine Or.inr ?_; (simp [or_imp, forall_and, AV.namesL, AV.names]; done)) | skip
              · all_goals repeat' (first | exact True.intro | refine And.intro ?_ ?_ | (intro _u; clear _u) | (with_reducible refine fzEs_same ?_ ?_ ?_) | (with_reducible refine mtEs_same ?_ ?_))
                all_goals first | (with_reducible rfl) | omega | (simp; done) | (simp only [AV.namesL, AV.names, List.append_nil]; done) | (simp [AV.namesL]; done) | (simp [AV.namesL, AV.names]; done) | exact Or.inl (by decide) | (refine Or.inr ?_; (simp [AV.namesL, AV.names]; done)) | (refine Or.inr ?_; (simp [or_imp, forall_and, AV.namesL, AV.names]; done)) | skip
          · refine aix_n 5 rfl rfl ?_
            repeat ((intro _u; clear _u); first
              | (with_reducible refine acnd_tt ?_)
              | (with_reducible refine acnd_ff ?_)
              | ((with_reducible refine IConf.mk ?_ ?_); · kernel_rfl)
              | (first | (refine aix_n 0 rfl rfl ?_) | (refine aix_n 1 rfl rfl ?_) | (refine aix_n 2 rfl rfl ?_) | (refine aix_n 3 rfl rfl ?_) | (refine aix_n 4 rfl rfl ?_) | (refine aix_n 5 rfl rfl ?_) | (refine aix_n 6 rfl rfl ?_) | (refine aix_n 7 rfl rfl ?_))
              | ((with_reducible refine iwr_in ?_ ?_); · (simp only [inI]; omega))
              | ((with_reducible refine need_i ?_ ?_); · (first | omega | (simp <;> omega))))
            intro _u; clear _u
            refine acnd_i (fun h3 => ?_) (fun h3 => ?_)
            all_goals repeat (first | simp only [decide_eq_true_eq] at h3 | simp only [decide_eq_false_iff_not] at h3 | simp only [beq_iff_eq] at h3 | simp only [bne_iff_ne] at h3 | simp only [beq_eq_false_iff_ne] at h3 | simp only [bne_eq_false_iff_eq] at h3 | simp only [Bool.not_eq_true'] at h3 | simp only [Bool.not_eq_false'] at h3 | simp only [Int.not_lt] at h3 | simp only [Int.not_le] at h3 | simp only [Bool.and_eq_true] at h3 | simp only [Bool.or_eq_true] at h3 | simp only [gt_iff_lt] at h3 | simp only [ge_iff_le] at h3 | simp only [ne_eq] at h3 | simp only [Decidable.not_not] at h3)
            · repeat ((intro _u; clear _u); first
                | (with_reducible refine acnd_tt ?_)
                | (with_reducible refine acnd_ff ?_)
                | ((with_reducible refine IConf.mk ?_ ?_); · kernel_rfl)
                | (first | (refine aix_n 0 rfl rfl ?_) | (refine aix_n 1 rfl rfl ?_) | (refine aix_n 2 rfl rfl ?_) | (refine aix_n 3 rfl rfl ?_) | (refine aix_n 4 rfl rfl ?_) | (refine aix_n 5 rfl rfl ?_) | (refine aix_n 6 rfl rfl ?_) | (refine aix_n 7 rfl rfl ?_))
                | ((with_reducible refine iwr_in ?_ ?_); · (simp only [inI]; omega))
                | ((with_reducible refine need_i ?_ ?_); · (first | omega | (simp <;> omega))))
              intro _u; clear _u
              refine IRet.of ?_
              all_goals repeat' (first | exact True.intro | refine And.intro ?_ ?_ | (intro _u; clear _u) | (with_reducible refine fzEs_same ?_ ?_ ?_) | (with_reducible refine mtEs_same ?_ ?_))
              all_goals first | (with_reducible rfl) | omega | (simp; done) | (simp only [AV.namesL, AV.names, List.append_nil]; done) | (simp [AV.namesL]; done) | (simp [AV.namesL, AV.names]; done) | exact Or.inl (by decide) | (refine Or.inr ?_; (simp [AV.namesL, AV.names]; done)) | (refine Or.inr ?_; (simp [or_imp, forall_and, AV.namesL, AV.names]; done)) | skip
              have : m.high = true := Mf.high_t hj8 (show 15 < m.mask j by rw [hj]; exact Int.lt_of_lt_of_le (by decide : (15 : Int) < 16) h3)
              simp [chk, h1, this]
            · repeat ((intro _u; clear _u); first
                | (with_reducible refine acnd_tt ?_)
                | (with_reducible refine acnd_ff ?_)
                | ((with_reducible refine IConf.mk ?_ ?_); · kernel_rfl)
                | (first | (refine aix_n 0 rfl rfl ?_) | (refine aix_n 1 rfl rfl ?_) | (refine aix_n 2 rfl rfl ?_) | (refine aix_n 3 rfl rfl ?_) | (refine aix_n 4 rfl rfl ?_) | (refine aix_n 5 rfl rfl ?_) | (refine aix_n 6 rfl rfl ?_) | (refine aix_n 7 rfl rfl ?_))
                | ((with_reducible refine iwr_in ?_ ?_); · (simp only [inI]; omega))
                | ((with_reducible refine need_i ?_ ?_); · (first | omega | (simp <;> omega))))
              intro _u; clear _u
              refine ⟨j + 1, ?_, ?_, ⟨_, hp, rfl⟩, ?_, ?_⟩
              · refine ⟨by omega, fun q hq => ?_⟩
                by_cases e : q = j
                · rw [e, hj]; exact Int.lt_add_one_iff.1 h3
                · exact hm q (by omega)
              · omega
              · all_goals repeat' (first | exact True.intro | refine And.intro ?_ ?_ | (intro _u; clear _u) | (with_reducible refine fzEs_same ?_ ?_ ?_) | (with_reducible refine mtEs_same ?_ ?_))
                all_goals first | (with_reducible rfl) | omega | (simp; done) | (simp only [AV.namesL, AV.names, List.append_nil]; done) | (simp [AV.namesL]; done) | (simp [AV.namesL, AV.names]; done) | exact Or.inl (by decide) | (refine Or.inr ?_; (simp [AV.namesL, AV.names]; done)) | (refine Or.inr ?_; (simp [or_imp, forall_and, AV.namesL, AV.names]; done)) | skip
              · all_goals repeat' (first | exact True.intro | refine And.intro ?_ ?_ | (intro _u; clear _u) | (with_reducible refine fzEs_same ?_ ?_ ?_) | (with_reducible refine mtEs_same ?_ ?_))
                all_goals first | (with_reducible rfl) | omega | (simp; done) | (simp only [AV.namesL, AV.names, List.append_nil]; done) | (simp [AV.namesL]; done) | (simp [AV.namesL, AV.names]; done) | exact Or.inl (by decide) | (refine Or.inr ?_; (simp [AV.namesL, AV.names]; done)) | (refine Or.inr ?_; (simp [or_imp, forall_and, AV.namesL, AV.names]; done)) | skip
          · refine aix_n 6 rfl rfl ?_
            repeat ((intro _u; clear _u); first
              | (with_reducible refine acnd_tt ?_)
              | (with_reducible refine acnd_ff ?_)
              | ((with_reducible refine IConf.mk ?_ ?_); · kernel_rfl)
              | (first | (refine aix_n 0 rfl rfl ?_) | (refine aix_n 1 rfl rfl ?_) | (refine aix_n 2 rfl rfl ?_) | (refine aix_n 3 rfl rfl ?_) | (refine aix_n 4 rfl rfl ?_) | (refine aix_n 5 rfl rfl ?_) | (refine aix_n 6 rfl rfl ?_) | (refine aix_n 7 rfl rfl ?_))
              | ((with_reducible refine iwr_in ?_ ?_); · (simp only [inI]; omega))
              | ((with_reducible refine need_i ?_ ?_); · (first | omega | (simp <;> omega))))
            intro _u; clear _u
            refine acnd_i (fun h3 => ?_) (fun h3 => ?_)
            all_goals repeat (first | simp only [decide_eq_true_eq] at h3 | simp only [decide_eq_false_iff_not] at h3 | simp only [beq_iff_eq] at h3 | simp only [bne_iff_ne] at h3 | simp only [beq_eq_false_iff_ne] at h3 | simp only [bne_eq_false_iff_eq] at h3 | simp only [Bool.not_eq_true'] at h3 | simp only [Bool.not_eq_false'] at h3 | simp only [Int.not_lt] at h3 | simp only [Int.not_le] at h3 | simp only [Bool.and_eq_true] at h3 | simp only [Bool.or_eq_true] at h3 | simp only [gt_iff_lt] at h3 | simp only [ge_iff_le] at h3 | simp only [ne_eq] at h3 | simp only [Decidable.not_not] at h3)
            · repeat ((intro _u; clear _u); first
                | (with_reducible refine acnd_tt ?_)
                | (with_reducible refine acnd_ff ?_)
                | ((with_reducible refine IConf.mk ?_ ?_); · kernel_rfl)
                | (first | (refine aix_n 0 rfl rfl ?_) | (refine aix_n 1 rfl rfl ?_) | (refine aix_n 2 rfl rfl ?_) | (refine aix_n 3 rfl rfl ?_) | (refine aix_n 4 rfl rfl ?_) | (refine aix_n 5 rfl rfl ?_) | (refine aix_n 6 rfl rfl ?_) | (refine aix_n 7 rfl rfl ?_))
                | ((with_reducible refine iwr_in ?_ ?_); · (simp only [inI]; omega))
                | ((with_reducible refine need_i ?_ ?_); · (first | omega | (simp <;> omega))))
              intro _u; clear _u
              refine IRet.of ?_
              all_goals repeat' (first | exact True.intro | refine And.intro ?_ ?_ | (intro _u; clear _u) | (with_reducible refine fzEs_same ?_ ?_ ?_) | (with_reducible refine mtEs_same ?_ ?_))
              all_goals first | (with_reducible rfl) | omega | (simp; done) | (simp only [AV.namesL, AV.names, List.append_nil]; done) | (simp [AV.namesL]; done) | (simp [AV.namesL, AV.names]; done) | exact Or.inl (by decide) | (refine Or.inr ?_; (simp [AV.namesL, AV.names]; done)) | (refine Or.inr ?_; (simp [or_imp, forall_and, AV.namesL, AV.names]; done)) | skip
              have : m.high = true := Mf.high_t hj8 (show 15 < m.mask j by rw [hj]; exact Int.lt_of_lt_of_le (by decide : (15 : Int) < 16) h3)
              simp [chk, h1, this]
            · repeat ((intro _u; clear _u); first
                | (with_reducible refine acnd_tt ?_)
                | (with_reducible refine acnd_ff ?_)
                | ((with_reducible refine IConf.mk ?_ ?_); · kernel_rfl)
                | (first | (refine aix_n 0 rfl rfl ?_) | (refine aix_n 1 rfl rfl ?_) | (refine aix_n 2 rfl rfl ?_) | (refine aix_n 3 rfl rfl ?_) | (refine aix_n 4 rfl rfl ?_) | (refine aix_n 5 rfl rfl ?_) | (refine aix_n 6 rfl rfl ?_) | (refine aix_n 7 rfl rfl ?_))
                | ((with_reducible refine iwr_in ?_ ?_); · (simp only [inI]; omega))
                | ((with_reducible refine need_i ?_ ?_); · (first | omega | (simp <;> omega))))
              intro _u; clear _u
              refine ⟨j + 1, ?_, ?_, ⟨_, hp, rfl⟩, ?_, ?_⟩
              · refine ⟨by omega, fun q hq => ?_⟩
                by_cases e : q = j
                · rw [e, hj]; exact Int.lt_add_one_iff.1 h3
                · exact hm q (by omega)
              · omega
              · all_goals repeat' (first | exact True.intro | refine And.intro ?_ ?_ | (intro _u; clear _u) | (with_reducible refine fzEs_same ?_ ?_ ?_) | (with_reducible refine mtEs_same ?_ ?_))
                all_goals first | (with_reducible rfl) | omega | (simp; done) | (simp only [AV.namesL, AV.names, List.append_nil]; done) | (simp [AV.namesL]; done) | (simp [AV.namesL, AV.names]; done) | exact Or.inl (by decide) | (refine Or.inr ?_; (simp [AV.namesL, AV.names]; done)) | (refine Or.inr ?_; (simp [or_imp, forall_and, AV.namesL, AV.names]; done)) | skip
              · all_goals repeat' (first | exact True.intro | refine And.intro ?_ ?_ | (intro _u; clear _u) | (with_reducible refine fzEs_same ?_ ?_ ?_) | (with_reducible refine mtEs_same ?_ ?_))
                all_goals first | (with_reducible rfl) | omega | (simp; done) | (simp only [AV.namesL, AV.names, List.append_nil]; done) | (simp [AV.namesL]; done) | (simp [AV.namesL, AV.names]; done) | exact Or.inl (by decide) | (refine Or.inr ?_; (simp [AV.namesL, AV.names]; done)) | (refine Or.inr ?_; (simp [or_imp, forall_and, AV.namesL, AV.names]; done)) | skip
          · refine aix_n 7 rfl rfl ?_
            repeat ((intro _u; clear _u); first
              | (with_reducible refine acnd_tt ?_)
              | (with_reducible refine acnd_ff ?_)
              | ((with_reducible refine IConf.mk ?_ ?_); · kernel_rfl)
              | (first | (refine aix_n 0 rfl rfl ?_) | (refine aix_n 1 rfl rfl ?_) | (refine aix_n 2 rfl rfl ?_) | (refine aix_n 3 rfl rfl ?_) | (refine aix_n 4 rfl rfl ?_) | (refine aix_n 5 rfl rfl ?_) | (refine aix_n 6 rfl rfl ?_) | (refine aix_n 7 rfl rfl ?_))
              | ((with_reducible refine iwr_in ?_ ?_); · (simp only [inI]; omega))
              | ((with_reducible refine need_i ?_ ?_); · (first | omega | (simp <;> omega))))
            intro _u; clear _u
            refine acnd_i (fun h3 => ?_) (fun h3 => ?_)
            all_goals repeat (first | simp only [decide_eq_true_eq] at h3 | simp only [decide_eq_false_iff_not] at h3 | simp only [beq_iff_eq] at h3 | simp only [bne_iff_ne] at h3 | simp only [beq_eq_false_iff_ne] at h3 | simp only [bne_eq_false_iff_eq] at h3 | simp only [Bool.not_eq_true'] at h3 | simp only [Bool.not_eq_false'] at h3 | simp only [Int.not_lt] at h3 | simp only [Int.not_le] at h3 | simp only [Bool.and_eq_true] at h3 | simp only [Bool.or_eq_true] at h3 | simp only [gt_iff_lt] at h3 | simp only [ge_iff_le] at h3 | simp only [ne_eq] at h3 | simp only [Decidable.not_not] at h3)
            · repeat ((intro _u; clear _u); first
                | (with_reducible refine acnd_tt ?_)
                | (with_reducible refine acnd_ff ?_)
                | ((with_reducible refine IConf.mk ?_ ?_); · kernel_rfl)
                | (first | (refine aix_n 0 rfl rfl ?_) | (refine aix_n 1 rfl rfl ?_) | (refine aix_n 2 rfl rfl ?_) | (refine aix_n 3 rfl rfl ?_) | (refine aix_n 4 rfl rfl ?_) | (refine aix_n 5 rfl rfl ?_) | (refine aix_n 6 rfl rfl ?_) | (refine aix_n 7 rfl rfl ?_))
                | ((with_reducible refine iwr_in ?_ ?_); · (simp only [inI]; omega))
                | ((with_reducible refine need_i ?_ ?_); · (first | omega | (simp <;> omega))))
              intro _u; clear _u
              refine IRet.of ?_
              all_goals repeat' (first | exact True.intro | refine And.intro ?_ ?_ | (intro _u; clear _u) | (with_reducible refine fzEs_same ?_ ?_ ?_) | (with_reducible refine mtEs_same ?_ ?_))
              all_goals first | (with_reducible rfl) | omega | (simp; done) | (simp only [AV.namesL, AV.names, List.append_nil]; done) | (simp [AV.namesL]; done) | (simp [AV.namesL, AV.names]; done) | exact Or.inl (by decide) | (refine Or.inr ?_; (simp [AV.namesL, AV.names]; done)) | (refine Or.inr ?_; (simp [or_imp, forall_and, AV.namesL, AV.names]; done)) | skip
              have : m.high = true := Mf.high_t hj8 (show 15 < m.mask j by rw [hj]; exact Int.lt_of_lt_of_le (by decide : (15 : Int) < 16) h3)
              simp [chk, h1, this]
            · repeat ((intro _u; clear _u); first
                | (with_reducible refine acnd_tt ?_)
                | (with_reducible refine acnd_ff ?_)
                | ((with_reducible refine IConf.mk ?_ ?_); · kernel_rfl)
                | (first | (refine aix_n 0 rfl rfl ?_) | (refine aix_n 1 rfl rfl ?_) | (refine aix_n 2 rfl rfl ?_) | (refine aix_n 3 rfl rfl ?_) | (refine aix_n 4 rfl rfl ?_) | (refine aix_n 5 rfl rfl ?_) | (refine aix_n 6 rfl rfl ?_) | (refine aix_n 7 rfl rfl ?_))
                | ((with_reducible refine iwr_in ?_ ?_); · (simp only [inI]; omega))
                | ((with_reducible refine need_i ?_ ?_); · (first | omega | (simp <;> omega))))
              intro _u; clear _u
              refine ⟨j + 1, ?_, ?_, ⟨_, hp, rfl⟩, ?_, ?_⟩
              · refine ⟨by omega, fun q hq => ?_⟩
                by_cases e : q = j
                · rw [e, hj]; exact Int.lt_add_one_iff.1 h3
                · exact hm q (by omega)
              · omega
              · all_goals repeat' (first | exact True.intro | refine And.intro ?_ ?_ | (intro _u; clear _u) | (with_reducible refine fzEs_same ?_ ?_ ?_) | (with_reducible refine mtEs_same ?_ ?_))
                all_goals first | (with_reducible rfl) | omega | (simp; done) | (simp only [AV.namesL, AV.names, List.append_nil]; done) | (simp [AV.namesL]; done) | (simp [AV.namesL, AV.names]; done) | exact Or.inl (by decide) | (refine Or.inr ?_; (simp [AV.namesL, AV.names]; done)) | (refine Or.inr ?_; (simp [or_imp, forall_and, AV.namesL, AV.names]; done)) | skip
              · all_goals repeat' (first | exact True.intro | refine And.intro ?_ ?_ | (intro _u; clear _u) | (with_reducible refine fzEs_same ?_ ?_ ?_) | (with_reducible refine mtEs_same ?_ ?_))
                all_goals first | (with_reducible rfl) | omega | (simp; done) | (simp only [AV.namesL, AV.names, List.append_nil]; done) | (simp [AV.namesL]; done) | (simp [AV.namesL, AV.names]; done) | exact Or.inl (by decide) | (refine Or.inr ?_; (simp [AV.namesL, AV.names]; done)) | (refine Or.inr ?_; (simp [or_imp, forall_and, AV.namesL, AV.names]; done)) | skip
        · have hno : m.high = false := Mf.high_f fun j hj => hm j (by omega)
          repeat ((intro _u; clear _u); first
            | (with_reducible refine acnd_tt ?_)
            | (with_reducible refine acnd_ff ?_)
            | ((with_reducible refine IConf.mk ?_ ?_); · kernel_rfl)
            | (first | (refine aix_n 0 rfl rfl ?_) | (refine aix_n 1 rfl rfl ?_) | (refine aix_n 2 rfl rfl ?_) | (refine aix_n 3 rfl rfl ?_) | (refine aix_n 4 rfl rfl ?_) | (refine aix_n 5 rfl rfl ?_) | (refine aix_n 6 rfl rfl ?_) | (refine aix_n 7 rfl rfl ?_))
            | ((with_reducible refine iwr_in ?_ ?_); · (simp only [inI]; omega))
            | ((with_reducible refine need_i ?_ ?_); · (first | omega | (simp <;> omega))))
          intro _u; clear _u
          refine acnd_i (fun h3 => ?_) (fun h3 => ?_)
          all_goals repeat (first | simp only [decide_eq_true_eq] at h3 | simp only [decide_eq_false_iff_not] at h3 | simp only [beq_iff_eq] at h3 | simp only [bne_iff_ne] at h3 | simp only [beq_eq_false_iff_ne] at h3 | simp only [bne_eq_false_iff_eq] at h3 | simp only [Bool.not_eq_true'] at h3 | simp only [Bool.not_eq_false'] at h3 | simp only [Int.not_lt] at h3 | simp only [Int.not_le] at h3 | simp only [Bool.and_eq_true] at h3 | simp only [Bool.or_eq_true] at h3 | simp only [gt_iff_lt] at h3 | simp only [ge_iff_le] at h3 | simp only [ne_eq] at h3 | simp only [Decidable.not_not] at h3)
          · repeat ((intro _u; clear _u); first
              | (with_reducible refine acnd_tt ?_)
              | (with_reducible refine acnd_ff ?_)
              | ((with_reducible refine IConf.mk ?_ ?_); · kernel_rfl)
              | (first | (refine aix_n 0 rfl rfl ?_) | (refine aix_n 1 rfl rfl ?_) | (refine aix_n 2 rfl rfl ?_) | (refine aix_n 3 rfl rfl ?_) | (refine aix_n 4 rfl rfl ?_) | (refine aix_n 5 rfl rfl ?_) | (refine aix_n 6 rfl rfl ?_) | (refine aix_n 7 rfl rfl ?_))
              | ((with_reducible refine iwr_in ?_ ?_); · (simp only [inI]; omega))
              | ((with_reducible refine need_i ?_ ?_); · (first | omega | (simp <;> omega))))
            intro _u; clear _u
            refine IRet.of ?_
            all_goals repeat' (first | exact True.intro | refine And.intro ?_ ?_ | (intro _u; clear _u) | (with_reducible refine fzEs_same ?_ ?_ ?_) | (with_reducible refine mtEs_same ?_ ?_))
            all_goals first | (with_reducible rfl) | omega | (simp; done) | (simp only [AV.namesL, AV.names, List.append_nil]; done) | (simp [AV.namesL]; done) | (simp [AV.namesL, AV.names]; done) | exact Or.inl (by decide) | (refine Or.inr ?_; (simp [AV.namesL, AV.names]; done)) | (refine Or.inr ?_; (simp [or_imp, forall_and, AV.namesL, AV.names]; done)) | skip
            simp [chk, h1, hno]; omega
          · repeat ((intro _u; clear _u); first
              | (with_reducible refine acnd_tt ?_)
              | (with_reducible refine acnd_ff ?_)
              | ((with_reducible refine IConf.mk ?_ ?_); · kernel_rfl)
              | (first | (refine aix_n 0 rfl rfl ?_) | (refine aix_n 1 rfl rfl ?_) | (refine aix_n 2 rfl rfl ?_) | (refine aix_n 3 rfl rfl ?_) | (refine aix_n 4 rfl rfl ?_) | (refine aix_n 5 rfl rfl ?_) | (refine aix_n 6 rfl rfl ?_) | (refine aix_n 7 rfl rfl ?_))
              | ((with_reducible refine iwr_in ?_ ?_); · (simp only [inI]; omega))
              | ((with_reducible refine need_i ?_ ?_); · (first | omega | (simp <;> omega))))
            intro _u; clear _u
            refine acnd_i (fun h4 => ?_) (fun h4 => ?_)
            all_goals repeat (first | simp only [decide_eq_true_eq] at h4 | simp only [decide_eq_false_iff_not] at h4 | simp only [beq_iff_eq] at h4 | simp only [bne_iff_ne] at h4 | simp only [beq_eq_false_iff_ne] at h4 | simp only [bne_eq_false_iff_eq] at h4 | simp only [Bool.not_eq_true'] at h4 | simp only [Bool.not_eq_false'] at h4 | simp only [Int.not_lt] at h4 | simp only [Int.not_le] at h4 | simp only [Bool.and_eq_true] at h4 | simp only [Bool.or_eq_true] at h4 | simp only [gt_iff_lt] at h4 | simp only [ge_iff_le] at h4 | simp only [ne_eq] at h4 | simp only [Decidable.not_not] at h4)
            · repeat ((intro _u; clear _u); first
                | (with_reducible refine acnd_tt ?_)
                | (with_reducible refine acnd_ff ?_)
                | ((with_reducible refine IConf.mk ?_ ?_); · kernel_rfl)
                | (first | (refine aix_n 0 rfl rfl ?_) | (refine aix_n 1 rfl rfl ?_) | (refine aix_n 2 rfl rfl ?_) | (refine aix_n 3 rfl rfl ?_) | (refine aix_n 4 rfl rfl ?_) | (refine aix_n 5 rfl rfl ?_) | (refine aix_n 6 rfl rfl ?_) | (refine aix_n 7 rfl rfl ?_))
                | ((with_reducible refine iwr_in ?_ ?_); · (simp only [inI]; omega))
                | ((with_reducible refine need_i ?_ ?_); · (first | omega | (simp <;> omega))))
              intro _u; clear _u
              refine IRet.of ?_
              all_goals repeat' (first | exact True.intro | refine And.intro ?_ ?_ | (intro _u; clear _u) | (with_reducible refine fzEs_same ?_ ?_ ?_) | (with_reducible refine mtEs_same ?_ ?_))
              all_goals first | (with_reducible rfl) | omega | (simp; done) | (simp only [AV.namesL, AV.names, List.append_nil]; done) | (simp [AV.namesL]; done) | (simp [AV.namesL, AV.names]; done) | exact Or.inl (by decide) | (refine Or.inr ?_; (simp [AV.namesL, AV.names]; done)) | (refine Or.inr ?_; (simp [or_imp, forall_and, AV.namesL, AV.names]; done)) | skip
              simp [chk, h1, hno, h4]
            · repeat ((intro _u; clear _u); first
                | (with_reducible refine acnd_tt ?_)
                | (with_reducible refine acnd_ff ?_)
                | ((with_reducible refine IConf.mk ?_ ?_); · kernel_rfl)
                | (first | (refine aix_n 0 rfl rfl ?_) | (refine aix_n 1 rfl rfl ?_) | (refine aix_n 2 rfl rfl ?_) | (refine aix_n 3 rfl rfl ?_) | (refine aix_n 4 rfl rfl ?_) | (refine aix_n 5 rfl rfl ?_) | (refine aix_n 6 rfl rfl ?_) | (refine aix_n 7 rfl rfl ?_))
                | ((with_reducible refine iwr_in ?_ ?_); · (simp only [inI]; omega))
                | ((with_reducible refine need_i ?_ ?_); · (first | omega | (simp <;> omega))))
              intro _u; clear _u
              refine ICall.pure h.n38.o38.hb (rcap_c h.n38 m.kind) rfl ?_
              repeat ((intro _u; clear _u); first
                | (with_reducible refine acnd_tt ?_)
                | (with_reducible refine acnd_ff ?_)
                | ((with_reducible refine IConf.mk ?_ ?_); · kernel_rfl)
                | (first | (refine aix_n 0 rfl rfl ?_) | (refine aix_n 1 rfl rfl ?_) | (refine aix_n 2 rfl rfl ?_) | (refine aix_n 3 rfl rfl ?_) | (refine aix_n 4 rfl rfl ?_) | (refine aix_n 5 rfl rfl ?_) | (refine aix_n 6 rfl rfl ?_) | (refine aix_n 7 rfl rfl ?_))
                | ((with_reducible refine iwr_in ?_ ?_); · (simp only [inI]; omega))
                | ((with_reducible refine need_i ?_ ?_); · (first | omega | (simp <;> omega))))
              intro _u; clear _u
              refine acnd_i (fun h5 => ?_) (fun h5 => ?_)
              all_goals repeat (first | simp only [decide_eq_true_eq] at h5 | simp only [decide_eq_false_iff_not] at h5 | simp only [beq_iff_eq] at h5 | simp only [bne_iff_ne] at h5 | simp only [beq_eq_false_iff_ne] at h5 | simp only [bne_eq_false_iff_eq] at h5 | simp only [Bool.not_eq_true'] at h5 | simp only [Bool.not_eq_false'] at h5 | simp only [Int.not_lt] at h5 | simp only [Int.not_le] at h5 | simp only [Bool.and_eq_true] at h5 | simp only [Bool.or_eq_true] at h5 | simp only [gt_iff_lt] at h5 | simp only [ge_iff_le] at h5 | simp only [ne_eq] at h5 | simp only [Decidable.not_not] at h5)
              · repeat ((intro _u; clear _u); first
                  | (with_reducible refine acnd_tt ?_)
                  | (with_reducible refine acnd_ff ?_)
                  | ((with_reducible refine IConf.mk ?_ ?_); · kernel_rfl)
                  | (first | (refine aix_n 0 rfl rfl ?_) | (refine aix_n 1 rfl rfl ?_) | (refine aix_n 2 rfl rfl ?_) | (refine aix_n 3 rfl rfl ?_) | (refine aix_n 4 rfl rfl ?_) | (refine aix_n 5 rfl rfl ?_) | (refine aix_n 6 rfl rfl ?_) | (refine aix_n 7 rfl rfl ?_))
                  | ((with_reducible refine iwr_in ?_ ?_); · (simp only [inI]; omega))
                  | ((with_reducible refine need_i ?_ ?_); · (first | omega | (simp <;> omega))))
                intro _u; clear _u
                refine IRet.of ?_
                all_goals repeat' (first | exact True.intro | refine And.intro ?_ ?_ | (intro _u; clear _u) | (with_reducible refine fzEs_same ?_ ?_ ?_) | (with_reducible refine mtEs_same ?_ ?_))
                all_goals first | (with_reducible rfl) | omega | (simp; done) | (simp only [AV.namesL, AV.names, List.append_nil]; done) | (simp [AV.namesL]; done) | (simp [AV.namesL, AV.names]; done) | exact Or.inl (by decide) | (refine Or.inr ?_; (simp [AV.namesL, AV.names]; done)) | (refine Or.inr ?_; (simp [or_imp, forall_and, AV.namesL, AV.names]; done)) | skip
                simp [chk, h1, hno]; omega
              · repeat ((intro _u; clear _u); first
                  | (with_reducible refine acnd_tt ?_)
                  | (with_reducible refine acnd_ff ?_)
                  | ((with_reducible refine IConf.mk ?_ ?_); · kernel_rfl)
                  | (first | (refine aix_n 0 rfl rfl ?_) | (refine aix_n 1 rfl rfl ?_) | (refine aix_n 2 rfl rfl ?_) | (refine aix_n 3 rfl rfl ?_) | (refine aix_n 4 rfl rfl ?_) | (refine aix_n 5 rfl rfl ?_) | (refine aix_n 6 rfl rfl ?_) | (refine aix_n 7 rfl rfl ?_))
                  | ((with_reducible refine iwr_in ?_ ?_); · (simp only [inI]; omega))
                  | ((with_reducible refine need_i ?_ ?_); · (first | omega | (simp <;> omega))))
                intro _u; clear _u
                refine ICall.pure h.n40.o40.hb (rchunks_c h.n40 m.size hs) rfl ?_
                repeat ((intro _u; clear _u); first
                  | (with_reducible refine acnd_tt ?_)
                  | (with_reducible refine acnd_ff ?_)
                  | ((with_reducible refine IConf.mk ?_ ?_); · kernel_rfl)
                  | (first | (refine aix_n 0 rfl rfl ?_) | (refine aix_n 1 rfl rfl ?_) | (refine aix_n 2 rfl rfl ?_) | (refine aix_n 3 rfl rfl ?_) | (refine aix_n 4 rfl rfl ?_) | (refine aix_n 5 rfl rfl ?_) | (refine aix_n 6 rfl rfl ?_) | (refine aix_n 7 rfl rfl ?_))
                  | ((with_reducible refine iwr_in ?_ ?_); · (simp only [inI]; omega))
                  | ((with_reducible refine need_i ?_ ?_); · (first | omega | (simp <;> omega))))
                intro _u; clear _u
                refine acnd_i (fun h6 => ?_) (fun h6 => ?_)
                all_goals repeat (first | simp only [decide_eq_true_eq] at h6 | simp only [decide_eq_false_iff_not] at h6 | simp only [beq_iff_eq] at h6 | simp only [bne_iff_ne] at h6 | simp only [beq_eq_false_iff_ne] at h6 | simp only [bne_eq_false_iff_eq] at h6 | simp only [Bool.not_eq_true'] at h6 | simp only [Bool.not_eq_false'] at h6 | simp only [Int.not_lt] at h6 | simp only [Int.not_le] at h6 | simp only [Bool.and_eq_true] at h6 | simp only [Bool.or_eq_true] at h6 | simp only [gt_iff_lt] at h6 | simp only [ge_iff_le] at h6 | simp only [ne_eq] at h6 | simp only [Decidable.not_not] at h6)
                · repeat ((intro _u; clear _u); first
                    | (with_reducible refine acnd_tt ?_)
                    | (with_reducible refine acnd_ff ?_)
                    | ((with_reducible refine IConf.mk ?_ ?_); · kernel_rfl)
                    | (first | (refine aix_n 0 rfl rfl ?_) | (refine aix_n 1 rfl rfl ?_) | (refine aix_n 2 rfl rfl ?_) | (refine aix_n 3 rfl rfl ?_) | (refine aix_n 4 rfl rfl ?_) | (refine aix_n 5 rfl rfl ?_) | (refine aix_n 6 rfl rfl ?_) | (refine aix_n 7 rfl rfl ?_))
                    | ((with_reducible refine iwr_in ?_ ?_); · (simp only [inI]; omega))
                    | ((with_reducible refine need_i ?_ ?_); · (first | omega | (simp <;> omega))))
                  intro _u; clear _u
                  refine IRet.of ?_
                  all_goals repeat' (first | exact True.intro | refine And.intro ?_ ?_ | (intro _u; clear _u) | (with_reducible refine fzEs_same ?_ ?_ ?_) | (with_reducible refine mtEs_same ?_ ?_))
                  all_goals first | (with_reducible rfl) | omega | (simp; done) | (simp only [AV.namesL, AV.names, List.append_nil]; done) | (simp [AV.namesL]; done) | (simp [AV.namesL, AV.names]; done) | exact Or.inl (by decide) | (refine Or.inr ?_; (simp [AV.namesL, AV.names]; done)) | (refine Or.inr ?_; (simp [or_imp, forall_and, AV.namesL, AV.names]; done)) | skip
                  simp [chk, h1, hno, h6]; omega
                · repeat ((intro _u; clear _u); first
                    | (with_reducible refine acnd_tt ?_)
                    | (with_reducible refine acnd_ff ?_)
                    | ((with_reducible refine IConf.mk ?_ ?_); · kernel_rfl)
                    | (first | (refine aix_n 0 rfl rfl ?_) | (refine aix_n 1 rfl rfl ?_) | (refine aix_n 2 rfl rfl ?_) | (refine aix_n 3 rfl rfl ?_) | (refine aix_n 4 rfl rfl ?_) | (refine aix_n 5 rfl rfl ?_) | (refine aix_n 6 rfl rfl ?_) | (refine aix_n 7 rfl rfl ?_))
                    | ((with_reducible refine iwr_in ?_ ?_); · (simp only [inI]; omega))
                    | ((with_reducible refine need_i ?_ ?_); · (first | omega | (simp <;> omega))))
                  intro _u; clear _u
                  refine IRet.of ?_
                  all_goals repeat' (first | exact True.intro | refine And.intro ?_ ?_ | (intro _u; clear _u) | (with_reducible refine fzEs_same ?_ ?_ ?_) | (with_reducible refine mtEs_same ?_ ?_))
                  all_goals first | (with_reducible rfl) | omega | (simp; done) | (simp only [AV.namesL, AV.names, List.append_nil]; done) | (simp [AV.namesL]; done) | (simp [AV.namesL, AV.names]; done) | exact Or.inl (by decide) | (refine Or.inr ?_; (simp [AV.namesL, AV.names]; done)) | (refine Or.inr ?_; (simp [or_imp, forall_and, AV.namesL, AV.names]; done)) | skip
                  simp [chk, h1, hno, h6]; omega
end Go.UM

/- The statements of chapter 12. -/


namespace Go.UM
open Go.AM
set_option maxRecDepth 4000

theorem length_c {R : Env} (h : N52 R) : R.Pc 52 [] (.int .i64 35) :=
  h.o52.enter 60 rfl fun X b hfit hp => by
    repeat ((intro _u; clear _u); first
      | (with_reducible refine acnd_tt ?_)
      | (with_reducible refine acnd_ff ?_)
      | ((with_reducible refine IConf.mk ?_ ?_); · kernel_rfl)
      | (first | (refine aix_n 0 rfl rfl ?_) | (refine aix_n 1 rfl rfl ?_) | (refine aix_n 2 rfl rfl ?_) | (refine aix_n 3 rfl rfl ?_) | (refine aix_n 4 rfl rfl ?_) | (refine aix_n 5 rfl rfl ?_) | (refine aix_n 6 rfl rfl ?_) | (refine aix_n 7 rfl rfl ?_))
      | ((with_reducible refine iwr_in ?_ ?_); · (simp only [inI]; omega))
      | ((with_reducible refine need_i ?_ ?_); · (first | omega | (simp <;> omega))))
    intro _u; clear _u
    refine IRet.of ?_
    all_goals repeat' (first | exact True.intro | refine And.intro ?_ ?_ | (intro _u; clear _u) | (with_reducible refine fzEs_same ?_ ?_ ?_) | (with_reducible refine mtEs_same ?_ ?_))
    all_goals first | (with_reducible rfl) | omega | (simp; done) | (simp only [AV.namesL, AV.names, List.append_nil]; done) | (simp [AV.namesL]; done) | (simp [AV.namesL, AV.names]; done) | exact Or.inl (by decide) | (refine Or.inr ?_; (simp [AV.namesL, AV.names]; done)) | (refine Or.inr ?_; (simp [or_imp, forall_and, AV.namesL, AV.names]; done)) | skip

theorem works12_c {R : Env} (h : N43 R) : R.Pc 43 [] (.bool true) :=
  h.o43.enter 60 rfl fun X b hfit hp => by
    repeat ((intro _u; clear _u); first
      | (with_reducible refine acnd_tt ?_)
      | (with_reducible refine acnd_ff ?_)
      | ((with_reducible refine IConf.mk ?_ ?_); · kernel_rfl)
      | (first | (refine aix_n 0 rfl rfl ?_) | (refine aix_n 1 rfl rfl ?_) | (refine aix_n 2 rfl rfl ?_) | (refine aix_n 3 rfl rfl ?_) | (refine aix_n 4 rfl rfl ?_) | (refine aix_n 5 rfl rfl ?_) | (refine aix_n 6 rfl rfl ?_) | (refine aix_n 7 rfl rfl ?_))
      | ((with_reducible refine iwr_in ?_ ?_); · (simp only [inI]; omega))
      | ((with_reducible refine need_i ?_ ?_); · (first | omega | (simp <;> omega))))
    intro _u; clear _u
    refine ICall.pure h.n41.o41.hb (chk_c h.n41 ⟨0, 4, 0, 0, 0, 0, 0, 0, 0, 0, 0, 0, 0, 40, 1⟩ (by simp [inI])) rfl ?_
    repeat ((intro _u; clear _u); first
      | (with_reducible refine acnd_tt ?_)
      | (with_reducible refine acnd_ff ?_)
      | ((with_reducible refine IConf.mk ?_ ?_); · kernel_rfl)
      | (first | (refine aix_n 0 rfl rfl ?_) | (refine aix_n 1 rfl rfl ?_) | (refine aix_n 2 rfl rfl ?_) | (refine aix_n 3 rfl rfl ?_) | (refine aix_n 4 rfl rfl ?_) | (refine aix_n 5 rfl rfl ?_) | (refine aix_n 6 rfl rfl ?_) | (refine aix_n 7 rfl rfl ?_))
      | ((with_reducible refine iwr_in ?_ ?_); · (simp only [inI]; omega))
      | ((with_reducible refine need_i ?_ ?_); · (first | omega | (simp <;> omega))))
    intro _u; clear _u
    refine acnd_t (by decide) ?_
    repeat ((intro _u; clear _u); first
      | (with_reducible refine acnd_tt ?_)
      | (with_reducible refine acnd_ff ?_)
      | ((with_reducible refine IConf.mk ?_ ?_); · kernel_rfl)
      | (first | (refine aix_n 0 rfl rfl ?_) | (refine aix_n 1 rfl rfl ?_) | (refine aix_n 2 rfl rfl ?_) | (refine aix_n 3 rfl rfl ?_) | (refine aix_n 4 rfl rfl ?_) | (refine aix_n 5 rfl rfl ?_) | (refine aix_n 6 rfl rfl ?_) | (refine aix_n 7 rfl rfl ?_))
      | ((with_reducible refine iwr_in ?_ ?_); · (simp only [inI]; omega))
      | ((with_reducible refine need_i ?_ ?_); · (first | omega | (simp <;> omega))))
    intro _u; clear _u
    refine ICall.pure h.n41.o41.hb (chk_c h.n41 ⟨0, 4, 0, 0, 0, 0, 0, 0, 0, 0, 0, 0, 0, 65, 1⟩ (by simp [inI])) rfl ?_
    repeat ((intro _u; clear _u); first
      | (with_reducible refine acnd_tt ?_)
      | (with_reducible refine acnd_ff ?_)
      | ((with_reducible refine IConf.mk ?_ ?_); · kernel_rfl)
      | (first | (refine aix_n 0 rfl rfl ?_) | (refine aix_n 1 rfl rfl ?_) | (refine aix_n 2 rfl rfl ?_) | (refine aix_n 3 rfl rfl ?_) | (refine aix_n 4 rfl rfl ?_) | (refine aix_n 5 rfl rfl ?_) | (refine aix_n 6 rfl rfl ?_) | (refine aix_n 7 rfl rfl ?_))
      | ((with_reducible refine iwr_in ?_ ?_); · (simp only [inI]; omega))
      | ((with_reducible refine need_i ?_ ?_); · (first | omega | (simp <;> omega))))
    intro _u; clear _u
    refine acnd_t (by decide) ?_
    repeat ((intro _u; clear _u); first
      | (with_reducible refine acnd_tt ?_)
      | (with_reducible refine acnd_ff ?_)
      | ((with_reducible refine IConf.mk ?_ ?_); · kernel_rfl)
      | (first | (refine aix_n 0 rfl rfl ?_) | (refine aix_n 1 rfl rfl ?_) | (refine aix_n 2 rfl rfl ?_) | (refine aix_n 3 rfl rfl ?_) | (refine aix_n 4 rfl rfl ?_) | (refine aix_n 5 rfl rfl ?_) | (refine aix_n 6 rfl rfl ?_) | (refine aix_n 7 rfl rfl ?_))
      | ((with_reducible refine iwr_in ?_ ?_); · (simp only [inI]; omega))
      | ((with_reducible refine need_i ?_ ?_); · (first | omega | (simp <;> omega))))
    intro _u; clear _u
    refine ICall.pure h.n39.o39.hb (chunks_c h.n39 257 (by simp [inI])) rfl ?_
    repeat ((intro _u; clear _u); first
      | (with_reducible refine acnd_tt ?_)
      | (with_reducible refine acnd_ff ?_)
      | ((with_reducible refine IConf.mk ?_ ?_); · kernel_rfl)
      | (first | (refine aix_n 0 rfl rfl ?_) | (refine aix_n 1 rfl rfl ?_) | (refine aix_n 2 rfl rfl ?_) | (refine aix_n 3 rfl rfl ?_) | (refine aix_n 4 rfl rfl ?_) | (refine aix_n 5 rfl rfl ?_) | (refine aix_n 6 rfl rfl ?_) | (refine aix_n 7 rfl rfl ?_))
      | ((with_reducible refine iwr_in ?_ ?_); · (simp only [inI]; omega))
      | ((with_reducible refine need_i ?_ ?_); · (first | omega | (simp <;> omega))))
    intro _u; clear _u
    refine acnd_t (by decide) ?_
    repeat ((intro _u; clear _u); first
      | (with_reducible refine acnd_tt ?_)
      | (with_reducible refine acnd_ff ?_)
      | ((with_reducible refine IConf.mk ?_ ?_); · kernel_rfl)
      | (first | (refine aix_n 0 rfl rfl ?_) | (refine aix_n 1 rfl rfl ?_) | (refine aix_n 2 rfl rfl ?_) | (refine aix_n 3 rfl rfl ?_) | (refine aix_n 4 rfl rfl ?_) | (refine aix_n 5 rfl rfl ?_) | (refine aix_n 6 rfl rfl ?_) | (refine aix_n 7 rfl rfl ?_))
      | ((with_reducible refine iwr_in ?_ ?_); · (simp only [inI]; omega))
      | ((with_reducible refine need_i ?_ ?_); · (first | omega | (simp <;> omega))))
    intro _u; clear _u
    refine ICall.pure h.n52.o52.hb (length_c h.n52) rfl ?_
    repeat ((intro _u; clear _u); first
      | (with_reducible refine acnd_tt ?_)
      | (with_reducible refine acnd_ff ?_)
      | ((with_reducible refine IConf.mk ?_ ?_); · kernel_rfl)
      | (first | (refine aix_n 0 rfl rfl ?_) | (refine aix_n 1 rfl rfl ?_) | (refine aix_n 2 rfl rfl ?_) | (refine aix_n 3 rfl rfl ?_) | (refine aix_n 4 rfl rfl ?_) | (refine aix_n 5 rfl rfl ?_) | (refine aix_n 6 rfl rfl ?_) | (refine aix_n 7 rfl rfl ?_))
      | ((with_reducible refine iwr_in ?_ ?_); · (simp only [inI]; omega))
      | ((with_reducible refine need_i ?_ ?_); · (first | omega | (simp <;> omega))))
    intro _u; clear _u
    refine IRet.of ?_
    all_goals repeat' (first | exact True.intro | refine And.intro ?_ ?_ | (intro _u; clear _u) | (with_reducible refine fzEs_same ?_ ?_ ?_) | (with_reducible refine mtEs_same ?_ ?_))
    all_goals first | (with_reducible rfl) | omega | (simp; done) | (simp only [AV.namesL, AV.names, List.append_nil]; done) | (simp [AV.namesL]; done) | (simp [AV.namesL, AV.names]; done) | exact Or.inl (by decide) | (refine Or.inr ?_; (simp [AV.namesL, AV.names]; done)) | (refine Or.inr ?_; (simp [or_imp, forall_and, AV.namesL, AV.names]; done)) | skip

theorem checks_c {R : Env} (h : N36 R) (m : Mf) (hs : inI .i64 m.size) (k : Int) (hk : inI .i64 k) : R.Pc 36 [.agg m.row, .int .i64 k] (.bool true) :=
  h.o36.enter 100 rfl fun X b hfit hp => by
    repeat ((intro _u; clear _u); first
      | (with_reducible refine acnd_tt ?_)
      | (with_reducible refine acnd_ff ?_)
      | ((with_reducible refine IConf.mk ?_ ?_); · kernel_rfl)
      | (first | (refine aix_n 0 rfl rfl ?_) | (refine aix_n 1 rfl rfl ?_) | (refine aix_n 2 rfl rfl ?_) | (refine aix_n 3 rfl rfl ?_) | (refine aix_n 4 rfl rfl ?_) | (refine aix_n 5 rfl rfl ?_) | (refine aix_n 6 rfl rfl ?_) | (refine aix_n 7 rfl rfl ?_))
      | ((with_reducible refine iwr_in ?_ ?_); · (simp only [inI]; omega))
      | ((with_reducible refine need_i ?_ ?_); · (first | omega | (simp <;> omega))))
    intro _u; clear _u
    refine ICall.pure h.n37.o37.hb (cap_c h.n37 k) rfl ?_
    repeat ((intro _u; clear _u); first
      | (with_reducible refine acnd_tt ?_)
      | (with_reducible refine acnd_ff ?_)
      | ((with_reducible refine IConf.mk ?_ ?_); · kernel_rfl)
      | (first | (refine aix_n 0 rfl rfl ?_) | (refine aix_n 1 rfl rfl ?_) | (refine aix_n 2 rfl rfl ?_) | (refine aix_n 3 rfl rfl ?_) | (refine aix_n 4 rfl rfl ?_) | (refine aix_n 5 rfl rfl ?_) | (refine aix_n 6 rfl rfl ?_) | (refine aix_n 7 rfl rfl ?_))
      | ((with_reducible refine iwr_in ?_ ?_); · (simp only [inI]; omega))
      | ((with_reducible refine need_i ?_ ?_); · (first | omega | (simp <;> omega))))
    intro _u; clear _u
    refine ICall.pure h.n38.o38.hb (rcap_c h.n38 k) rfl ?_
    repeat ((intro _u; clear _u); first
      | (with_reducible refine acnd_tt ?_)
      | (with_reducible refine acnd_ff ?_)
      | ((with_reducible refine IConf.mk ?_ ?_); · kernel_rfl)
      | (first | (refine aix_n 0 rfl rfl ?_) | (refine aix_n 1 rfl rfl ?_) | (refine aix_n 2 rfl rfl ?_) | (refine aix_n 3 rfl rfl ?_) | (refine aix_n 4 rfl rfl ?_) | (refine aix_n 5 rfl rfl ?_) | (refine aix_n 6 rfl rfl ?_) | (refine aix_n 7 rfl rfl ?_))
      | ((with_reducible refine iwr_in ?_ ?_); · (simp only [inI]; omega))
      | ((with_reducible refine need_i ?_ ?_); · (first | omega | (simp <;> omega))))
    intro _u; clear _u
    refine acnd_t (by simp) ?_
    repeat ((intro _u; clear _u); first
      | (with_reducible refine acnd_tt ?_)
      | (with_reducible refine acnd_ff ?_)
      | ((with_reducible refine IConf.mk ?_ ?_); · kernel_rfl)
      | (first | (refine aix_n 0 rfl rfl ?_) | (refine aix_n 1 rfl rfl ?_) | (refine aix_n 2 rfl rfl ?_) | (refine aix_n 3 rfl rfl ?_) | (refine aix_n 4 rfl rfl ?_) | (refine aix_n 5 rfl rfl ?_) | (refine aix_n 6 rfl rfl ?_) | (refine aix_n 7 rfl rfl ?_))
      | ((with_reducible refine iwr_in ?_ ?_); · (simp only [inI]; omega))
      | ((with_reducible refine need_i ?_ ?_); · (first | omega | (simp <;> omega))))
    intro _u; clear _u
    refine ICall.pure h.n39.o39.hb (chunks_c h.n39 k hk) rfl ?_
    repeat ((intro _u; clear _u); first
      | (with_reducible refine acnd_tt ?_)
      | (with_reducible refine acnd_ff ?_)
      | ((with_reducible refine IConf.mk ?_ ?_); · kernel_rfl)
      | (first | (refine aix_n 0 rfl rfl ?_) | (refine aix_n 1 rfl rfl ?_) | (refine aix_n 2 rfl rfl ?_) | (refine aix_n 3 rfl rfl ?_) | (refine aix_n 4 rfl rfl ?_) | (refine aix_n 5 rfl rfl ?_) | (refine aix_n 6 rfl rfl ?_) | (refine aix_n 7 rfl rfl ?_))
      | ((with_reducible refine iwr_in ?_ ?_); · (simp only [inI]; omega))
      | ((with_reducible refine need_i ?_ ?_); · (first | omega | (simp <;> omega))))
    intro _u; clear _u
    refine ICall.pure h.n40.o40.hb (rchunks_c h.n40 k hk) rfl ?_
    repeat ((intro _u; clear _u); first
      | (with_reducible refine acnd_tt ?_)
      | (with_reducible refine acnd_ff ?_)
      | ((with_reducible refine IConf.mk ?_ ?_); · kernel_rfl)
      | (first | (refine aix_n 0 rfl rfl ?_) | (refine aix_n 1 rfl rfl ?_) | (refine aix_n 2 rfl rfl ?_) | (refine aix_n 3 rfl rfl ?_) | (refine aix_n 4 rfl rfl ?_) | (refine aix_n 5 rfl rfl ?_) | (refine aix_n 6 rfl rfl ?_) | (refine aix_n 7 rfl rfl ?_))
      | ((with_reducible refine iwr_in ?_ ?_); · (simp only [inI]; omega))
      | ((with_reducible refine need_i ?_ ?_); · (first | omega | (simp <;> omega))))
    intro _u; clear _u
    refine acnd_t (by simp) ?_
    repeat ((intro _u; clear _u); first
      | (with_reducible refine acnd_tt ?_)
      | (with_reducible refine acnd_ff ?_)
      | ((with_reducible refine IConf.mk ?_ ?_); · kernel_rfl)
      | (first | (refine aix_n 0 rfl rfl ?_) | (refine aix_n 1 rfl rfl ?_) | (refine aix_n 2 rfl rfl ?_) | (refine aix_n 3 rfl rfl ?_) | (refine aix_n 4 rfl rfl ?_) | (refine aix_n 5 rfl rfl ?_) | (refine aix_n 6 rfl rfl ?_) | (refine aix_n 7 rfl rfl ?_))
      | ((with_reducible refine iwr_in ?_ ?_); · (simp only [inI]; omega))
      | ((with_reducible refine need_i ?_ ?_); · (first | omega | (simp <;> omega))))
    intro _u; clear _u
    refine ICall.pure h.n41.o41.hb (chk_c h.n41 m hs) rfl ?_
    repeat ((intro _u; clear _u); first
      | (with_reducible refine acnd_tt ?_)
      | (with_reducible refine acnd_ff ?_)
      | ((with_reducible refine IConf.mk ?_ ?_); · kernel_rfl)
      | (first | (refine aix_n 0 rfl rfl ?_) | (refine aix_n 1 rfl rfl ?_) | (refine aix_n 2 rfl rfl ?_) | (refine aix_n 3 rfl rfl ?_) | (refine aix_n 4 rfl rfl ?_) | (refine aix_n 5 rfl rfl ?_) | (refine aix_n 6 rfl rfl ?_) | (refine aix_n 7 rfl rfl ?_))
      | ((with_reducible refine iwr_in ?_ ?_); · (simp only [inI]; omega))
      | ((with_reducible refine need_i ?_ ?_); · (first | omega | (simp <;> omega))))
    intro _u; clear _u
    refine ICall.pure h.n42.o42.hb (rchk_c h.n42 m hs) rfl ?_
    repeat ((intro _u; clear _u); first
      | (with_reducible refine acnd_tt ?_)
      | (with_reducible refine acnd_ff ?_)
      | ((with_reducible refine IConf.mk ?_ ?_); · kernel_rfl)
      | (first | (refine aix_n 0 rfl rfl ?_) | (refine aix_n 1 rfl rfl ?_) | (refine aix_n 2 rfl rfl ?_) | (refine aix_n 3 rfl rfl ?_) | (refine aix_n 4 rfl rfl ?_) | (refine aix_n 5 rfl rfl ?_) | (refine aix_n 6 rfl rfl ?_) | (refine aix_n 7 rfl rfl ?_))
      | ((with_reducible refine iwr_in ?_ ?_); · (simp only [inI]; omega))
      | ((with_reducible refine need_i ?_ ?_); · (first | omega | (simp <;> omega))))
    intro _u; clear _u
    refine acnd_t (by simp) ?_
    repeat ((intro _u; clear _u); first
      | (with_reducible refine acnd_tt ?_)
      | (with_reducible refine acnd_ff ?_)
      | ((with_reducible refine IConf.mk ?_ ?_); · kernel_rfl)
      | (first | (refine aix_n 0 rfl rfl ?_) | (refine aix_n 1 rfl rfl ?_) | (refine aix_n 2 rfl rfl ?_) | (refine aix_n 3 rfl rfl ?_) | (refine aix_n 4 rfl rfl ?_) | (refine aix_n 5 rfl rfl ?_) | (refine aix_n 6 rfl rfl ?_) | (refine aix_n 7 rfl rfl ?_))
      | ((with_reducible refine iwr_in ?_ ?_); · (simp only [inI]; omega))
      | ((with_reducible refine need_i ?_ ?_); · (first | omega | (simp <;> omega))))
    intro _u; clear _u
    refine ICall.pure h.n43.o43.hb (works12_c h.n43) rfl ?_
    repeat ((intro _u; clear _u); first
      | (with_reducible refine acnd_tt ?_)
      | (with_reducible refine acnd_ff ?_)
      | ((with_reducible refine IConf.mk ?_ ?_); · kernel_rfl)
      | (first | (refine aix_n 0 rfl rfl ?_) | (refine aix_n 1 rfl rfl ?_) | (refine aix_n 2 rfl rfl ?_) | (refine aix_n 3 rfl rfl ?_) | (refine aix_n 4 rfl rfl ?_) | (refine aix_n 5 rfl rfl ?_) | (refine aix_n 6 rfl rfl ?_) | (refine aix_n 7 rfl rfl ?_))
      | ((with_reducible refine iwr_in ?_ ?_); · (simp only [inI]; omega))
      | ((with_reducible refine need_i ?_ ?_); · (first | omega | (simp <;> omega))))
    intro _u; clear _u
    refine IRet.of ?_
    all_goals repeat' (first | exact True.intro | refine And.intro ?_ ?_ | (intro _u; clear _u) | (with_reducible refine fzEs_same ?_ ?_ ?_) | (with_reducible refine mtEs_same ?_ ?_))
    all_goals first | (with_reducible rfl) | omega | (simp; done) | (simp only [AV.namesL, AV.names, List.append_nil]; done) | (simp [AV.namesL]; done) | (simp [AV.namesL, AV.names]; done) | exact Or.inl (by decide) | (refine Or.inr ?_; (simp [AV.namesL, AV.names]; done)) | (refine Or.inr ?_; (simp [or_imp, forall_and, AV.namesL, AV.names]; done)) | skip
end Go.UM
