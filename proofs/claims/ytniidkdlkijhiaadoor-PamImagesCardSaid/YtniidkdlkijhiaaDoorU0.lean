/- Of the reckoning machine, and what is proved with it: texts joined by program. -/
import Derived.Test.YtniidkdlkijhiaaDoorK3

namespace Go.UM
open Go.AM
end Go.UM

namespace Go.UM
open Go.AM
def c400 : IFn := { np := 1, rs := [.t 2], body :=
 (.seq
  (.ops [⟨some 2, none, .mv (.k (.str []))⟩])
  (.seq
   (.seq
    (.ops [⟨some 3, none, .mv (.t 0)⟩,
      ⟨some 4, none, .bin .lss (.t 3) (.k (.int .i64 10))⟩])
    (.cond (.t 4)
     (.seq
      (.ops [⟨some 5, none, .mv (.t 0)⟩,
        ⟨some 6, none, .mv (.t 0)⟩,
        ⟨some 7, none, .bin .add (.t 6) (.k (.int .i64 1))⟩,
        ⟨some 8, none, .slcT (.k (.str [48, 49, 50, 51, 52, 53, 54, 55, 56, 57, 97, 98, 99, 100, 101, 102, 103, 104, 105, 106, 107, 108, 109, 110, 111, 112, 113, 114, 115, 116, 117, 118, 119, 120, 121, 122])) (some (.t 5)) (some (.t 7))⟩,
        ⟨some 2, none, .mv (.t 8)⟩])
      (.keep [2]
       .ret))
     .skip))
   (.keep [0]
    (.seq
     (.ops [⟨some 9, none, .mv (.t 0)⟩,
       ⟨some 10, none, .bin .mul (.t 9) (.k (.int .i64 2))⟩,
       ⟨some 11, none, .mv (.t 0)⟩,
       ⟨some 12, none, .bin .mul (.t 11) (.k (.int .i64 2))⟩,
       ⟨some 13, none, .bin .add (.t 12) (.k (.int .i64 2))⟩,
       ⟨some 14, none, .slcT (.k (.str [48, 48, 48, 49, 48, 50, 48, 51, 48, 52, 48, 53, 48, 54, 48, 55, 48, 56, 48, 57, 49, 48, 49, 49, 49, 50, 49, 51, 49, 52, 49, 53, 49, 54, 49, 55, 49, 56, 49, 57, 50, 48, 50, 49, 50, 50, 50, 51, 50, 52, 50, 53, 50, 54, 50, 55, 50, 56, 50, 57, 51, 48, 51, 49, 51, 50, 51, 51, 51, 52, 51, 53, 51, 54, 51, 55, 51, 56, 51, 57, 52, 48, 52, 49, 52, 50, 52, 51, 52, 52, 52, 53, 52, 54, 52, 55, 52, 56, 52, 57, 53, 48, 53, 49, 53, 50, 53, 51, 53, 52, 53, 53, 53, 54, 53, 55, 53, 56, 53, 57, 54, 48, 54, 49, 54, 50, 54, 51, 54, 52, 54, 53, 54, 54, 54, 55, 54, 56, 54, 57, 55, 48, 55, 49, 55, 50, 55, 51, 55, 52, 55, 53, 55, 54, 55, 55, 55, 56, 55, 57, 56, 48, 56, 49, 56, 50, 56, 51, 56, 52, 56, 53, 56, 54, 56, 55, 56, 56, 56, 57, 57, 48, 57, 49, 57, 50, 57, 51, 57, 52, 57, 53, 57, 54, 57, 55, 57, 56, 57, 57])) (some (.t 10)) (some (.t 13))⟩,
       ⟨some 2, none, .mv (.t 14)⟩])
     (.keep [2]
      .ret))))) }
structure N400 (R : Env) : Prop where
  o400 : R.Fn 400 c400
def c399 : IFn := { np := 2, rs := [.t 4], body :=
 (.seq
  (.ops [⟨some 4, none, .mv (.k (.str []))⟩])
  (.seq
   (.seq
    (.ops [⟨some 10, none, .mv (.t 1)⟩,
      ⟨some 11, none, .bin .eql (.t 10) (.k (.int .i64 10))⟩])
    (.cond (.t 11)
     (.seq
      (.seq
       (.ops [⟨some 12, none, .mv (.t 0)⟩,
         ⟨some 13, none, .bin .leq (.k (.int .i64 0)) (.t 12)⟩,
         ⟨some 14, none, .mv (.t 13)⟩,
         ⟨some 15, some (14, true), .mv (.t 0)⟩,
         ⟨some 16, some (14, true), .bin .lss (.t 15) (.k (.int .i64 100))⟩,
         ⟨some 17, none, .pick (.t 14) (.t 16) (.k (.bool false))⟩])
       (.keep [0, 17]
        (.cond (.t 17)
         (.seq
          (.ops [⟨some 18, none, .mv (.t 0)⟩,
            ⟨some 19, none, .call 400 [.t 18]⟩,
            ⟨some 4, none, .mv (.t 19)⟩])
          .ret)
         .skip)))
      (.keep [0]
       (.seq
        (.ops [⟨some 5, none, .alloc 53 [.int .u8 0, .int .u8 0, .int .u8 0, .int .u8 0, .int .u8 0, .int .u8 0, .int .u8 0, .int .u8 0, .int .u8 0, .int .u8 0, .int .u8 0, .int .u8 0, .int .u8 0, .int .u8 0, .int .u8 0, .int .u8 0, .int .u8 0, .int .u8 0, .int .u8 0, .int .u8 0, .int .u8 0, .int .u8 0, .int .u8 0, .int .u8 0]⟩])
        (.seq
         (.ops [⟨some 20, none, .mv (.t 0)⟩,
           ⟨some 21, none, .conv .u64 (.t 20)⟩,
           ⟨some 6, none, .mv (.t 21)⟩])
         (.seq
          (.seq
           (.ops [⟨some 22, none, .mv (.t 0)⟩,
             ⟨some 23, none, .bin .lss (.t 22) (.k (.int .i64 0))⟩])
           (.cond (.t 23)
            (.ops [⟨some 24, none, .mv (.t 6)⟩,
              ⟨some 25, none, .un .neg (.t 24)⟩,
              ⟨some 6, none, .mv (.t 25)⟩])
            .skip))
          (.keep []
           .bad))))))
     .skip))
   (.keep []
    .bad))) }
structure N399 (R : Env) : Prop where
  o399 : R.Fn 399 c399
  n400 : N400 R
def c396 : IFn := { np := 1, rs := [.t 2], body :=
 (.seq
  (.ops [⟨some 2, none, .mv (.k (.str []))⟩])
  (.seq
   (.ops [⟨some 3, none, .mv (.t 0)⟩,
     ⟨some 4, none, .call 399 [.t 3, .k (.int .i64 10)]⟩,
     ⟨some 2, none, .mv (.t 4)⟩])
   .ret)) }
structure N396 (R : Env) : Prop where
  o396 : R.Fn 396 c396
  n399 : N399 R
def c393 : IFn := { np := 1, rs := [.t 2], body :=
 (.seq
  (.ops [⟨some 2, none, .mv (.k (.str []))⟩])
  (.seq
   (.ops [⟨some 3, none, .mv (.t 0)⟩,
     ⟨some 4, none, .call 396 [.t 3]⟩,
     ⟨some 2, none, .mv (.t 4)⟩])
   .ret)) }
structure N393 (R : Env) : Prop where
  o393 : R.Fn 393 c393
  n396 : N396 R
end Go.UM

namespace Go.UM
open Go.AM
def c151 : IFn := { np := 1, rs := [.t 2], body :=
 (.seq
  (.ops [⟨some 2, none, .mv (.k (.nils))⟩])
  (.seq
   (.ops [⟨some 3, none, .mv (.k (.nils))⟩])
   (.seq
    (.seq
     (.ops [⟨some 6, none, .mv (.t 0)⟩,
       ⟨some 7, none, .lenS (.t 6)⟩,
       ⟨some 8, none, .mv (.k (.int .i64 0))⟩])
     (.keep [3, 6, 7, 8]
      (.block 0
       (.loop
        (.seq
         (.ops [⟨some 9, none, .bin .lss (.t 8) (.t 7)⟩])
         (.seq
          (.cond (.t 9)
           .skip
           (.exit 0))
          (.keep [3, 6, 7, 8]
           (.seq
            (.block 1
             (.seq
              (.ops [⟨some 10, none, .idxS 3 (.t 6) (.t 8)⟩,
                ⟨some 11, none, .load true 3 (.t 10)⟩,
                ⟨some 5, none, .alloc 13 [.int .i64 0, .int .i64 0, .int .i64 0]⟩,
                ⟨none, none, .store 3 (.t 5) (.t 11)⟩])
              (.ops [⟨some 12, none, .mv (.t 3)⟩,
                ⟨some 13, none, .slcA 3 1 (.t 5) none none none⟩,
                ⟨some 14, none, .app 10 1 (.t 12) (.t 13)⟩,
                ⟨some 3, none, .mv (.t 14)⟩])))
            (.keep [3, 6, 7, 8]
             (.ops [⟨some 15, none, .bin .add (.t 8) (.k (.int .i64 1))⟩,
               ⟨some 8, none, .mv (.t 15)⟩]))))))))))
    (.keep [3]
     (.seq
      (.ops [⟨some 16, none, .mv (.t 3)⟩,
        ⟨some 2, none, .mv (.t 16)⟩])
      .ret))))) }
structure N151 (R : Env) : Prop where
  o151 : R.Fn 151 c151
def c152 : IFn := { np := 0, rs := [.cell 0 true 30], body :=
 (.seq
  (.ops [⟨some 0, none, .alloc 21 [.int .i64 0, .int .i64 0, .int .i64 0, .str [], .nils, .int .i64 0, .int .i64 0, .int .i64 0, .str [], .nils, .int .i64 0, .int .i64 0, .int .i64 0, .str [], .nils, .int .i64 0, .int .i64 0, .int .i64 0, .str [], .nils, .int .i64 0, .int .i64 0, .int .i64 0, .str [], .nils, .int .i64 0, .int .i64 0, .int .i64 0, .str [], .nils]⟩])
  (.seq
   (.ops [⟨some 1, none, .build [.int .i64 0, .int .i64 0, .int .i64 0, .str [], .nils] [(3, 1, .k (.str [66, 69, 65, 85, 84, 89])), (2, 1, .k (.int .i64 3))]⟩,
     ⟨some 2, none, .build [.int .i64 0, .int .i64 0, .int .i64 0, .str [], .nils] [(3, 1, .k (.str [65, 76, 80, 72, 65])), (2, 1, .k (.int .i64 1))]⟩,
     ⟨some 3, none, .build [.int .i64 0, .int .i64 0, .int .i64 0, .str [], .nils] [(3, 1, .k (.str [68, 69, 80, 84, 72])), (2, 1, .k (.int .i64 1))]⟩,
     ⟨some 4, none, .build [.int .i64 0, .int .i64 0, .int .i64 0, .str [], .nils] [(3, 1, .k (.str [78, 79, 82, 77, 65, 76])), (2, 1, .k (.int .i64 3))]⟩,
     ⟨some 5, none, .build [.int .i64 0, .int .i64 0, .int .i64 0, .str [], .nils] [(3, 1, .k (.str [65, 83, 83, 69, 84])), (2, 1, .k (.int .i64 1))]⟩,
     ⟨some 6, none, .build [.int .i64 0, .int .i64 0, .int .i64 0, .str [], .nils] [(3, 1, .k (.str [76, 65, 66, 69, 76])), (2, 1, .k (.int .i64 1))]⟩,
     ⟨some 7, none, .build [.int .i64 0, .int .i64 0, .int .i64 0, .str [], .nils, .int .i64 0, .int .i64 0, .int .i64 0, .str [], .nils, .int .i64 0, .int .i64 0, .int .i64 0, .str [], .nils, .int .i64 0, .int .i64 0, .int .i64 0, .str [], .nils, .int .i64 0, .int .i64 0, .int .i64 0, .str [], .nils, .int .i64 0, .int .i64 0, .int .i64 0, .str [], .nils] [(0, 5, .t 1), (5, 5, .t 2), (10, 5, .t 3), (15, 5, .t 4), (20, 5, .t 5), (25, 5, .t 6)]⟩,
     ⟨none, none, .store 30 (.t 0) (.t 7)⟩])
   (.keep [0]
    .ret))) }
structure N152 (R : Env) : Prop where
  o152 : R.Fn 152 c152
def c157 : IFn := { np := 3, rs := [.t 6], body :=
 (.seq
  (.ops [⟨some 6, none, .mv (.k (.bool false))⟩])
  (.seq
   (.ops [⟨some 7, none, .mv (.t 0)⟩,
     ⟨some 8, none, .mv (.t 1)⟩,
     ⟨some 9, none, .bin .geq (.t 7) (.t 8)⟩,
     ⟨some 10, none, .mv (.t 9)⟩,
     ⟨some 11, some (10, true), .mv (.t 0)⟩,
     ⟨some 12, some (10, true), .mv (.t 2)⟩,
     ⟨some 13, some (10, true), .bin .leq (.t 11) (.t 12)⟩,
     ⟨some 14, none, .pick (.t 10) (.t 13) (.k (.bool false))⟩,
     ⟨some 6, none, .mv (.t 14)⟩])
   (.keep [6]
    .ret))) }
structure N157 (R : Env) : Prop where
  o157 : R.Fn 157 c157
def c158 : IFn := { np := 1, rs := [.t 2], body :=
 (.seq
  (.ops [⟨some 2, none, .mv (.k (.bool false))⟩])
  (.seq
   (.seq
    (.ops [⟨some 5, none, .mv (.t 0)⟩,
      ⟨some 6, none, .s2b 4 (.t 5)⟩,
      ⟨some 7, none, .lenS (.t 6)⟩,
      ⟨some 8, none, .mv (.k (.int .i64 0))⟩])
    (.keep [0, 6, 7, 8]
     (.block 0
      (.loop
       (.seq
        (.ops [⟨some 9, none, .bin .lss (.t 8) (.t 7)⟩])
        (.seq
         (.cond (.t 9)
          .skip
          (.exit 0))
         (.keep [0, 6, 7, 8]
          (.seq
           (.block 1
            (.seq
             (.ops [⟨some 10, none, .idxS 1 (.t 6) (.t 8)⟩,
               ⟨some 11, none, .load false 1 (.t 10)⟩,
               ⟨some 4, none, .mv (.t 11)⟩])
             (.seq
              (.ops [⟨some 12, none, .mv (.t 4)⟩,
                ⟨some 13, none, .bin .lss (.t 12) (.k (.int .u8 65))⟩,
                ⟨some 14, none, .mv (.t 13)⟩,
                ⟨some 15, some (14, false), .mv (.t 4)⟩,
                ⟨some 16, some (14, false), .bin .gtr (.t 15) (.k (.int .u8 90))⟩,
                ⟨some 17, none, .pick (.t 14) (.k (.bool true)) (.t 16)⟩])
              (.keep [0, 6, 7, 8, 17]
               (.cond (.t 17)
                (.seq
                 (.ops [⟨some 2, none, .mv (.k (.bool false))⟩])
                 .ret)
                .skip)))))
           (.keep [0, 6, 7, 8]
            (.ops [⟨some 18, none, .bin .add (.t 8) (.k (.int .i64 1))⟩,
              ⟨some 8, none, .mv (.t 18)⟩]))))))))))
   (.keep [0]
    (.seq
     (.ops [⟨some 19, none, .mv (.t 0)⟩,
       ⟨some 20, none, .lenT (.t 19)⟩,
       ⟨some 21, none, .call 157 [.t 20, .k (.int .i64 1), .k (.int .i64 16)]⟩,
       ⟨some 2, none, .mv (.t 21)⟩])
     .ret)))) }
structure N158 (R : Env) : Prop where
  o158 : R.Fn 158 c158
  n157 : N157 R
def c153 : IFn := { np := 1, rs := [.t 2], body :=
 (.seq
  (.ops [⟨some 1, none, .box 20 (.t 0)⟩,
    ⟨some 2, none, .mv (.k (.int .i64 0))⟩])
  (.seq
   (.seq
    (.ops [⟨some 5, none, .fldA 0 (.t 1)⟩,
      ⟨some 6, none, .load false 1 (.t 5)⟩,
      ⟨some 7, none, .call 157 [.t 6, .k (.int .i64 1), .k (.int .i64 64)]⟩,
      ⟨some 8, none, .un .not (.t 7)⟩,
      ⟨some 9, none, .mv (.t 8)⟩,
      ⟨some 10, some (9, false), .fldA 1 (.t 1)⟩,
      ⟨some 11, some (9, false), .load false 1 (.t 10)⟩,
      ⟨some 12, some (9, false), .call 157 [.t 11, .k (.int .i64 1), .k (.int .i64 64)]⟩,
      ⟨some 13, some (9, false), .un .not (.t 12)⟩,
      ⟨some 14, none, .pick (.t 9) (.k (.bool true)) (.t 13)⟩,
      ⟨some 15, none, .mv (.t 14)⟩,
      ⟨some 16, some (15, false), .fldA 2 (.t 1)⟩,
      ⟨some 17, some (15, false), .load false 1 (.t 16)⟩,
      ⟨some 18, some (15, false), .call 157 [.t 17, .k (.int .i64 1), .k (.int .i64 4)]⟩,
      ⟨some 19, some (15, false), .un .not (.t 18)⟩,
      ⟨some 20, none, .pick (.t 15) (.k (.bool true)) (.t 19)⟩])
    (.keep [1, 20]
     (.cond (.t 20)
      (.seq
       (.ops [⟨some 2, none, .mv (.k (.int .i64 2))⟩])
       .ret)
      .skip)))
   (.keep [1]
    (.seq
     (.seq
      (.ops [⟨some 21, none, .fldA 3 (.t 1)⟩,
        ⟨some 22, none, .load false 1 (.t 21)⟩,
        ⟨some 23, none, .call 158 [.t 22]⟩,
        ⟨some 24, none, .un .not (.t 23)⟩,
        ⟨some 25, none, .mv (.t 24)⟩,
        ⟨some 26, some (25, false), .fldA 4 (.t 1)⟩,
        ⟨some 27, some (25, false), .load false 1 (.t 26)⟩,
        ⟨some 28, some (25, false), .lenS (.t 27)⟩,
        ⟨some 29, some (25, false), .fldA 0 (.t 1)⟩,
        ⟨some 30, some (25, false), .load false 1 (.t 29)⟩,
        ⟨some 31, some (25, false), .fldA 1 (.t 1)⟩,
        ⟨some 32, some (25, false), .load false 1 (.t 31)⟩,
        ⟨some 33, some (25, false), .bin .mul (.t 30) (.t 32)⟩,
        ⟨some 34, some (25, false), .fldA 2 (.t 1)⟩,
        ⟨some 35, some (25, false), .load false 1 (.t 34)⟩,
        ⟨some 36, some (25, false), .bin .mul (.t 33) (.t 35)⟩,
        ⟨some 37, some (25, false), .bin .neq (.t 28) (.t 36)⟩,
        ⟨some 38, none, .pick (.t 25) (.k (.bool true)) (.t 37)⟩])
      (.keep [1, 38]
       (.cond (.t 38)
        (.seq
         (.ops [⟨some 2, none, .mv (.k (.int .i64 5))⟩])
         .ret)
        .skip)))
     (.keep [1]
      (.seq
       (.seq
        (.ops [⟨some 39, none, .fldA 4 (.t 1)⟩,
          ⟨some 40, none, .load false 1 (.t 39)⟩,
          ⟨some 41, none, .lenS (.t 40)⟩,
          ⟨some 42, none, .mv (.k (.int .i64 0))⟩])
        (.keep [40, 41, 42]
         (.block 0
          (.loop
           (.seq
            (.ops [⟨some 43, none, .bin .lss (.t 42) (.t 41)⟩])
            (.seq
             (.cond (.t 43)
              .skip
              (.exit 0))
             (.keep [40, 41, 42]
              (.seq
               (.block 1
                (.seq
                 (.ops [⟨some 44, none, .idxS 1 (.t 40) (.t 42)⟩,
                   ⟨some 45, none, .load false 1 (.t 44)⟩,
                   ⟨some 4, none, .mv (.t 45)⟩])
                 (.seq
                  (.ops [⟨some 46, none, .mv (.t 4)⟩,
                    ⟨some 47, none, .call 157 [.t 46, .k (.int .i64 0), .k (.int .i64 65535)]⟩,
                    ⟨some 48, none, .un .not (.t 47)⟩])
                  (.cond (.t 48)
                   (.seq
                    (.ops [⟨some 2, none, .mv (.k (.int .i64 5))⟩])
                    .ret)
                   .skip))))
               (.keep [40, 41, 42]
                (.ops [⟨some 49, none, .bin .add (.t 42) (.k (.int .i64 1))⟩,
                  ⟨some 42, none, .mv (.t 49)⟩]))))))))))
       (.keep []
        (.seq
         (.ops [⟨some 2, none, .mv (.k (.int .i64 0))⟩])
         .ret)))))))) }
structure N153 (R : Env) : Prop where
  o153 : R.Fn 153 c153
  n157 : N157 R
  n158 : N158 R
def c132 : IFn := { np := 1, rs := [.t 2, .t 3], body :=
 (.seq
  (.ops [⟨some 1, none, .box 16 (.t 0)⟩,
    ⟨some 2, none, .mv (.k (.nils))⟩,
    ⟨some 3, none, .mv (.k (.int .i64 0))⟩])
  (.seq
   (.draw [0, 1, 3, 0, 8, 0, 32, 0, 128, 391, 0, 1024, 0, 4096, 16383, 0, 65535] [[1], [9], [10], [1], [12], [1], [14], [1], [16], [17], [1], [19], [1], [21], [11, 13, 15, 18, 20, 22], [], [4, 23]] [⟨some 9, none, .fldA 2 (.t 1)⟩,
     ⟨some 10, none, .load false 1 (.t 9)⟩,
     ⟨some 11, none, .call 151 [.t 10]⟩,
     ⟨some 12, none, .fldA 3 (.t 1)⟩,
     ⟨some 13, none, .load false 1 (.t 12)⟩,
     ⟨some 14, none, .fldA 4 (.t 1)⟩,
     ⟨some 15, none, .load false 1 (.t 14)⟩,
     ⟨some 16, none, .fldA 5 (.t 1)⟩,
     ⟨some 17, none, .load false 1 (.t 16)⟩,
     ⟨some 18, none, .call 151 [.t 17]⟩,
     ⟨some 19, none, .fldA 6 (.t 1)⟩,
     ⟨some 20, none, .load false 1 (.t 19)⟩,
     ⟨some 21, none, .fldA 7 (.t 1)⟩,
     ⟨some 22, none, .load false 1 (.t 21)⟩,
     ⟨some 23, none, .build [.nils, .nils, .nils, .nils, .nils, .nils] [(0, 1, .t 11), (1, 1, .t 13), (2, 1, .t 15), (3, 1, .t 18), (4, 1, .t 20), (5, 1, .t 22)]⟩,
     ⟨some 4, none, .alloc 19 [.nils, .nils, .nils, .nils, .nils, .nils]⟩,
     ⟨none, none, .store 6 (.t 4) (.t 23)⟩])
   (.keep [1, 4]
    (.seq
     (.ops [⟨some 5, none, .mv (.k (.nils))⟩])
     (.seq
      (.seq
       (.ops [⟨some 24, none, .call 152 []⟩,
         ⟨some 25, none, .mv (.k (.int .i64 0))⟩])
       (.keep [1, 4, 5, 24, 25]
        (.block 0
         (.loop
          (.seq
           (.ops [⟨some 26, none, .bin .lss (.t 25) (.k (.int .i64 6))⟩])
           (.seq
            (.cond (.t 26)
             .skip
             (.exit 0))
            (.keep [1, 4, 5, 24, 25]
             (.seq
              (.block 1
               (.seq
                (.ops [⟨some 27, none, .mv (.t 25)⟩,
                  ⟨some 28, none, .idxV true 6 5 (.t 24) (.t 25)⟩,
                  ⟨some 7, none, .alloc 20 [.int .i64 0, .int .i64 0, .int .i64 0, .str [], .nils]⟩,
                  ⟨some 6, none, .mv (.t 27)⟩,
                  ⟨none, none, .store 5 (.t 7) (.t 28)⟩])
                (.keep [1, 4, 5, 6, 7, 24, 25]
                 (.seq
                  (.draw [0, 1, 0, 4, 3, 19, 63, 127] [[1], [29], [1], [31], [7], [33, 30], [7], [34, 32]] [⟨some 29, none, .fldA 0 (.t 1)⟩,
                    ⟨some 30, none, .load false 1 (.t 29)⟩,
                    ⟨some 31, none, .fldA 1 (.t 1)⟩,
                    ⟨some 32, none, .load false 1 (.t 31)⟩,
                    ⟨some 33, none, .fldA 0 (.t 7)⟩,
                    ⟨none, none, .store 1 (.t 33) (.t 30)⟩,
                    ⟨some 34, none, .fldA 1 (.t 7)⟩,
                    ⟨none, none, .store 1 (.t 34) (.t 32)⟩])
                  (.keep [1, 4, 5, 6, 7, 24, 25]
                   (.seq
                    (.ops [⟨some 35, none, .bslice 10 1 0 [.int .i64 0] []⟩,
                      ⟨some 36, none, .mv (.t 6)⟩,
                      ⟨some 37, none, .idxA 6 1 (.t 4) (.t 36)⟩,
                      ⟨some 38, none, .load false 1 (.t 37)⟩,
                      ⟨some 39, none, .app 10 1 (.t 35) (.t 38)⟩,
                      ⟨some 40, none, .fldA 4 (.t 7)⟩,
                      ⟨none, none, .store 1 (.t 40) (.t 39)⟩])
                    (.keep [1, 4, 5, 7, 24, 25]
                     (.seq
                      (.seq
                       (.ops [⟨some 41, none, .load true 5 (.t 7)⟩,
                         ⟨some 42, none, .call 153 [.t 41]⟩,
                         ⟨some 8, none, .mv (.t 42)⟩])
                       (.seq
                        (.ops [⟨some 43, none, .mv (.t 8)⟩,
                          ⟨some 44, none, .bin .neq (.t 43) (.k (.int .i64 0))⟩])
                        (.cond (.t 44)
                         (.seq
                          (.ops [⟨some 45, none, .mv (.t 8)⟩,
                            ⟨some 2, none, .mv (.k (.nils))⟩,
                            ⟨some 3, none, .mv (.t 45)⟩])
                          .ret)
                         .skip)))
                      (.keep [1, 4, 5, 7, 24, 25]
                       (.ops [⟨some 46, none, .mv (.t 5)⟩,
                         ⟨some 47, none, .load true 5 (.t 7)⟩,
                         ⟨some 48, none, .bslice 20 5 1 [.int .i64 0, .int .i64 0, .int .i64 0, .str [], .nils] [(0, .t 47)]⟩,
                         ⟨some 49, none, .app 20 5 (.t 46) (.t 48)⟩,
                         ⟨some 5, none, .mv (.t 49)⟩]))))))))))
              (.keep [1, 4, 5, 24, 25]
               (.ops [⟨some 50, none, .bin .add (.t 25) (.k (.int .i64 1))⟩,
                 ⟨some 25, none, .mv (.t 50)⟩]))))))))))
      (.keep [5]
       (.seq
        (.ops [⟨some 51, none, .mv (.t 5)⟩,
          ⟨some 2, none, .mv (.t 51)⟩,
          ⟨some 3, none, .mv (.k (.int .i64 0))⟩])
        .ret))))))) }
structure N132 (R : Env) : Prop where
  o132 : R.Fn 132 c132
  n151 : N151 R
  n152 : N152 R
  n153 : N153 R
def c381 : IFn := { np := 1, rs := [.t 2], body :=
 (.seq
  (.ops [⟨some 1, none, .box 20 (.t 0)⟩,
    ⟨some 2, none, .mv (.k (.str []))⟩])
  (.seq
   (.draw [0, 1, 3, 7, 15, 0, 32, 103, 255, 511, 0, 1024, 3303, 8191, 16383, 0, 32768, 131071, 262143, 524287] [[1], [3], [4], [5], [6], [1], [8], [9], [7, 10], [11], [1], [13], [14], [12, 15], [16], [1], [18], [17, 19], [20], [21]] [⟨some 3, none, .fldA 0 (.t 1)⟩,
     ⟨some 4, none, .load false 1 (.t 3)⟩,
     ⟨some 5, none, .call 393 [.t 4]⟩,
     ⟨some 6, none, .bst .add (.k (.str [80, 55, 10, 87, 73, 68, 84, 72, 32])) (.t 5)⟩,
     ⟨some 7, none, .bst .add (.t 6) (.k (.str [10, 72, 69, 73, 71, 72, 84, 32]))⟩,
     ⟨some 8, none, .fldA 1 (.t 1)⟩,
     ⟨some 9, none, .load false 1 (.t 8)⟩,
     ⟨some 10, none, .call 393 [.t 9]⟩,
     ⟨some 11, none, .bst .add (.t 7) (.t 10)⟩,
     ⟨some 12, none, .bst .add (.t 11) (.k (.str [10, 68, 69, 80, 84, 72, 32]))⟩,
     ⟨some 13, none, .fldA 2 (.t 1)⟩,
     ⟨some 14, none, .load false 1 (.t 13)⟩,
     ⟨some 15, none, .call 393 [.t 14]⟩,
     ⟨some 16, none, .bst .add (.t 12) (.t 15)⟩,
     ⟨some 17, none, .bst .add (.t 16) (.k (.str [10, 77, 65, 88, 86, 65, 76, 32, 54, 53, 53, 51, 53, 10, 84, 85, 80, 76, 84, 89, 80, 69, 32]))⟩,
     ⟨some 18, none, .fldA 3 (.t 1)⟩,
     ⟨some 19, none, .load false 1 (.t 18)⟩,
     ⟨some 20, none, .bst .add (.t 17) (.t 19)⟩,
     ⟨some 21, none, .bst .add (.t 20) (.k (.str [10, 69, 78, 68, 72, 68, 82, 10]))⟩,
     ⟨some 2, none, .mv (.t 21)⟩])
   (.keep [2]
    .ret))) }
structure N381 (R : Env) : Prop where
  o381 : R.Fn 381 c381
  n393 : N393 R
def c365 : IFn := { np := 1, rs := [.t 2, .t 3], body :=
 (.seq
  (.ops [⟨some 1, none, .box 20 (.t 0)⟩,
    ⟨some 2, none, .mv (.k (.nils))⟩,
    ⟨some 3, none, .mv (.k (.int .i64 0))⟩])
  (.seq
   (.seq
    (.ops [⟨some 8, none, .load true 5 (.t 1)⟩,
      ⟨some 9, none, .call 153 [.t 8]⟩,
      ⟨some 4, none, .mv (.t 9)⟩])
    (.seq
     (.ops [⟨some 10, none, .mv (.t 4)⟩,
       ⟨some 11, none, .bin .neq (.t 10) (.k (.int .i64 0))⟩])
     (.cond (.t 11)
      (.seq
       (.ops [⟨some 12, none, .mv (.t 4)⟩,
         ⟨some 2, none, .mv (.k (.nils))⟩,
         ⟨some 3, none, .mv (.t 12)⟩])
       .ret)
      .skip)))
   (.keep [1]
    (.seq
     (.ops [⟨some 13, none, .load true 5 (.t 1)⟩,
       ⟨some 14, none, .call 381 [.t 13]⟩,
       ⟨some 15, none, .s2b 4 (.t 14)⟩,
       ⟨some 5, none, .mv (.t 15)⟩])
     (.seq
      (.seq
       (.ops [⟨some 16, none, .fldA 4 (.t 1)⟩,
         ⟨some 17, none, .load false 1 (.t 16)⟩,
         ⟨some 18, none, .lenS (.t 17)⟩,
         ⟨some 19, none, .mv (.k (.int .i64 0))⟩])
       (.keep [5, 17, 18, 19]
        (.block 0
         (.loop
          (.seq
           (.ops [⟨some 20, none, .bin .lss (.t 19) (.t 18)⟩])
           (.seq
            (.cond (.t 20)
             .skip
             (.exit 0))
            (.keep [5, 17, 18, 19]
             (.seq
              (.block 1
               (.seq
                (.ops [⟨some 21, none, .idxS 1 (.t 17) (.t 19)⟩,
                  ⟨some 22, none, .load false 1 (.t 21)⟩,
                  ⟨some 7, none, .mv (.t 22)⟩])
                (.ops [⟨some 23, none, .mv (.t 5)⟩,
                  ⟨some 24, none, .mv (.t 7)⟩,
                  ⟨some 25, none, .bin .shr (.t 24) (.k (.int .u64 8))⟩,
                  ⟨some 26, none, .conv .u8 (.t 25)⟩,
                  ⟨some 27, none, .mv (.t 7)⟩,
                  ⟨some 28, none, .conv .u8 (.t 27)⟩,
                  ⟨some 29, none, .bslice 4 1 2 [.int .u8 0] [(0, .t 26), (1, .t 28)]⟩,
                  ⟨some 30, none, .app 4 1 (.t 23) (.t 29)⟩,
                  ⟨some 5, none, .mv (.t 30)⟩])))
              (.keep [5, 17, 18, 19]
               (.ops [⟨some 31, none, .bin .add (.t 19) (.k (.int .i64 1))⟩,
                 ⟨some 19, none, .mv (.t 31)⟩]))))))))))
      (.keep [5]
       (.seq
        (.ops [⟨some 32, none, .mv (.t 5)⟩,
          ⟨some 2, none, .mv (.t 32)⟩,
          ⟨some 3, none, .mv (.k (.int .i64 0))⟩])
        .ret))))))) }
structure N365 (R : Env) : Prop where
  o365 : R.Fn 365 c365
  n153 : N153 R
  n381 : N381 R
def c383 : IFn := { np := 2, rs := [.t 3], body :=
 (.seq
  (.ops [⟨some 3, none, .mv (.k (.nils))⟩])
  (.seq
   (.ops [⟨some 4, none, .bslice 10 1 0 [.int .i64 0] []⟩,
     ⟨some 5, none, .load false 1 (.t 1)⟩,
     ⟨some 6, none, .mv (.t 0)⟩,
     ⟨some 7, none, .idxS 5 (.t 5) (.t 6)⟩,
     ⟨some 8, none, .fldA 4 (.t 7)⟩,
     ⟨some 9, none, .load false 1 (.t 8)⟩,
     ⟨some 10, none, .app 10 1 (.t 4) (.t 9)⟩,
     ⟨some 3, none, .mv (.t 10)⟩])
   (.keep [3]
    .ret))) }
structure N383 (R : Env) : Prop where
  o383 : R.Fn 383 c383
def c384 : IFn := { np := 1, rs := [.t 2], body :=
 (.seq
  (.ops [⟨some 2, none, .mv (.k (.nils))⟩])
  (.seq
   (.ops [⟨some 3, none, .mv (.k (.nils))⟩])
   (.seq
    (.seq
     (.ops [⟨some 4, none, .mv (.k (.int .i64 0))⟩])
     (.keep [0, 3, 4]
      (.block 0
       (.loop
        (.seq
         (.seq
          (.ops [⟨some 5, none, .mv (.t 4)⟩,
            ⟨some 6, none, .bin .add (.t 5) (.k (.int .i64 3))⟩,
            ⟨some 7, none, .mv (.t 0)⟩,
            ⟨some 8, none, .lenS (.t 7)⟩,
            ⟨some 9, none, .bin .leq (.t 6) (.t 8)⟩])
          (.keep [0, 3, 4, 9]
           (.cond (.t 9)
            .skip
            (.exit 0))))
         (.keep [0, 3, 4]
          (.seq
           (.block 1
            (.ops [⟨some 12, none, .mv (.t 3)⟩,
              ⟨some 13, none, .mv (.t 0)⟩,
              ⟨some 14, none, .mv (.t 4)⟩,
              ⟨some 15, none, .mv (.t 4)⟩,
              ⟨some 16, none, .bin .add (.t 15) (.k (.int .i64 3))⟩,
              ⟨some 17, none, .slcS 10 1 (.t 13) (some (.t 14)) (some (.t 16)) none⟩,
              ⟨some 18, none, .s2a 3 1 (.t 17)⟩,
              ⟨some 19, none, .load true 3 (.t 18)⟩,
              ⟨some 20, none, .bslice 13 3 1 [.int .i64 0, .int .i64 0, .int .i64 0] [(0, .t 19)]⟩,
              ⟨some 21, none, .app 13 3 (.t 12) (.t 20)⟩,
              ⟨some 3, none, .mv (.t 21)⟩]))
           (.keep [0, 3, 4]
            (.ops [⟨some 10, none, .mv (.t 4)⟩,
              ⟨some 11, none, .bin .add (.t 10) (.k (.int .i64 3))⟩,
              ⟨some 4, none, .mv (.t 11)⟩])))))))))
    (.keep [3]
     (.seq
      (.ops [⟨some 22, none, .mv (.t 3)⟩,
        ⟨some 2, none, .mv (.t 22)⟩])
      .ret))))) }
structure N384 (R : Env) : Prop where
  o384 : R.Fn 384 c384
def c369 : IFn := { np := 1, rs := [.cell 2 true 8, .t 3], body :=
 (.seq
  (.ops [⟨some 1, none, .box 50 (.t 0)⟩,
    ⟨some 2, none, .alloc 16 [.int .i64 0, .int .i64 0, .nils, .nils, .nils, .nils, .nils, .nils]⟩,
    ⟨some 3, none, .mv (.k (.int .i64 0))⟩])
  (.seq
   (.ops [⟨some 11, none, .call 152 []⟩,
     ⟨some 4, none, .alloc 21 [.int .i64 0, .int .i64 0, .int .i64 0, .str [], .nils, .int .i64 0, .int .i64 0, .int .i64 0, .str [], .nils, .int .i64 0, .int .i64 0, .int .i64 0, .str [], .nils, .int .i64 0, .int .i64 0, .int .i64 0, .str [], .nils, .int .i64 0, .int .i64 0, .int .i64 0, .str [], .nils, .int .i64 0, .int .i64 0, .int .i64 0, .str [], .nils]⟩,
     ⟨none, none, .store 30 (.t 4) (.t 11)⟩])
   (.seq
    (.seq
     (.ops [⟨some 12, none, .load false 1 (.t 1)⟩,
       ⟨some 13, none, .lenS (.t 12)⟩,
       ⟨some 14, none, .bin .neq (.t 13) (.k (.int .i64 6))⟩])
     (.cond (.t 14)
      (.seq
       (.ops [⟨some 15, none, .build [.int .i64 0, .int .i64 0, .nils, .nils, .nils, .nils, .nils, .nils] []⟩,
         ⟨none, none, .store 8 (.t 2) (.t 15)⟩,
         ⟨some 3, none, .mv (.k (.int .i64 5))⟩])
       .ret)
      .skip))
    (.keep [1, 2, 4]
     (.seq
      (.seq
       (.ops [⟨some 16, none, .load false 1 (.t 1)⟩,
         ⟨some 17, none, .lenS (.t 16)⟩,
         ⟨some 18, none, .mv (.k (.int .i64 0))⟩])
       (.keep [1, 2, 4, 16, 17, 18]
        (.block 0
         (.loop
          (.seq
           (.ops [⟨some 19, none, .bin .lss (.t 18) (.t 17)⟩])
           (.seq
            (.cond (.t 19)
             .skip
             (.exit 0))
            (.keep [1, 2, 4, 16, 17, 18]
             (.seq
              (.block 1
               (.seq
                (.ops [⟨some 20, none, .mv (.t 18)⟩,
                  ⟨some 21, none, .idxS 5 (.t 16) (.t 18)⟩,
                  ⟨some 22, none, .load true 5 (.t 21)⟩,
                  ⟨some 6, none, .alloc 20 [.int .i64 0, .int .i64 0, .int .i64 0, .str [], .nils]⟩,
                  ⟨some 5, none, .mv (.t 20)⟩,
                  ⟨none, none, .store 5 (.t 6) (.t 22)⟩])
                (.keep [1, 2, 4, 5, 6, 16, 17, 18]
                 (.seq
                  (.draw [0, 1, 0, 4, 12, 28, 63, 127, 255, 511, 255, 1279, 3327, 7423, 16383, 32767, 65535, 131071, 262143, 131071, 655359, 1703935, 3801087, 8388607, 16777215, 33554431, 67108863, 134217727, 67108863, 335544319, 872415231, 1946157055, 4294967295, 8589934591] [[6], [23], [5], [4, 25], [26], [27], [24, 28], [29], [6], [31], [5], [4, 33], [34], [35], [32, 36], [30, 37], [38], [6], [40], [1], [42], [43], [44], [41, 45], [39, 46], [47], [6], [49], [1], [51], [52], [53], [50, 54], [48, 55]] [⟨some 23, none, .fldA 3 (.t 6)⟩,
                    ⟨some 24, none, .load false 1 (.t 23)⟩,
                    ⟨some 25, none, .mv (.t 5)⟩,
                    ⟨some 26, none, .idxA 6 5 (.t 4) (.t 25)⟩,
                    ⟨some 27, none, .fldA 3 (.t 26)⟩,
                    ⟨some 28, none, .load false 1 (.t 27)⟩,
                    ⟨some 29, none, .bst .neq (.t 24) (.t 28)⟩,
                    ⟨some 30, none, .mv (.t 29)⟩,
                    ⟨some 31, some (30, false), .fldA 2 (.t 6)⟩,
                    ⟨some 32, some (30, false), .load false 1 (.t 31)⟩,
                    ⟨some 33, some (30, false), .mv (.t 5)⟩,
                    ⟨some 34, some (30, false), .idxA 6 5 (.t 4) (.t 33)⟩,
                    ⟨some 35, some (30, false), .fldA 2 (.t 34)⟩,
                    ⟨some 36, some (30, false), .load false 1 (.t 35)⟩,
                    ⟨some 37, some (30, false), .bin .neq (.t 32) (.t 36)⟩,
                    ⟨some 38, none, .pick (.t 30) (.k (.bool true)) (.t 37)⟩,
                    ⟨some 39, none, .mv (.t 38)⟩,
                    ⟨some 40, some (39, false), .fldA 0 (.t 6)⟩,
                    ⟨some 41, some (39, false), .load false 1 (.t 40)⟩,
                    ⟨some 42, some (39, false), .load false 1 (.t 1)⟩,
                    ⟨some 43, some (39, false), .idxS 5 (.t 42) (.k (.int .i64 0))⟩,
                    ⟨some 44, some (39, false), .fldA 0 (.t 43)⟩,
                    ⟨some 45, some (39, false), .load false 1 (.t 44)⟩,
                    ⟨some 46, some (39, false), .bin .neq (.t 41) (.t 45)⟩,
                    ⟨some 47, none, .pick (.t 39) (.k (.bool true)) (.t 46)⟩,
                    ⟨some 48, none, .mv (.t 47)⟩,
                    ⟨some 49, some (48, false), .fldA 1 (.t 6)⟩,
                    ⟨some 50, some (48, false), .load false 1 (.t 49)⟩,
                    ⟨some 51, some (48, false), .load false 1 (.t 1)⟩,
                    ⟨some 52, some (48, false), .idxS 5 (.t 51) (.k (.int .i64 0))⟩,
                    ⟨some 53, some (48, false), .fldA 1 (.t 52)⟩,
                    ⟨some 54, some (48, false), .load false 1 (.t 53)⟩,
                    ⟨some 55, some (48, false), .bin .neq (.t 50) (.t 54)⟩,
                    ⟨some 56, none, .pick (.t 48) (.k (.bool true)) (.t 55)⟩])
                  (.keep [1, 2, 4, 16, 17, 18, 56]
                   (.cond (.t 56)
                    (.seq
                     (.ops [⟨some 57, none, .build [.int .i64 0, .int .i64 0, .nils, .nils, .nils, .nils, .nils, .nils] []⟩,
                       ⟨none, none, .store 8 (.t 2) (.t 57)⟩,
                       ⟨some 3, none, .mv (.k (.int .i64 5))⟩])
                     .ret)
                    .skip))))))
              (.keep [1, 2, 4, 16, 17, 18]
               (.ops [⟨some 58, none, .bin .add (.t 18) (.k (.int .i64 1))⟩,
                 ⟨some 18, none, .mv (.t 58)⟩]))))))))))
      (.keep [1, 2]
       (.seq
        (.seq
         (.ops [⟨some 59, none, .load false 1 (.t 1)⟩,
           ⟨some 60, none, .lenS (.t 59)⟩,
           ⟨some 61, none, .mv (.k (.int .i64 0))⟩])
         (.keep [1, 2, 59, 60, 61]
          (.block 2
           (.loop
            (.seq
             (.ops [⟨some 62, none, .bin .lss (.t 61) (.t 60)⟩])
             (.seq
              (.cond (.t 62)
               .skip
               (.exit 2))
              (.keep [1, 2, 59, 60, 61]
               (.seq
                (.block 3
                 (.seq
                  (.ops [⟨some 63, none, .idxS 5 (.t 59) (.t 61)⟩,
                    ⟨some 64, none, .load true 5 (.t 63)⟩,
                    ⟨some 8, none, .alloc 20 [.int .i64 0, .int .i64 0, .int .i64 0, .str [], .nils]⟩,
                    ⟨none, none, .store 5 (.t 8) (.t 64)⟩])
                  (.seq
                   (.ops [⟨some 65, none, .load true 5 (.t 8)⟩,
                     ⟨some 66, none, .call 153 [.t 65]⟩,
                     ⟨some 9, none, .mv (.t 66)⟩])
                   (.seq
                    (.ops [⟨some 67, none, .mv (.t 9)⟩,
                      ⟨some 68, none, .bin .neq (.t 67) (.k (.int .i64 0))⟩])
                    (.cond (.t 68)
                     (.seq
                      (.ops [⟨some 69, none, .build [.int .i64 0, .int .i64 0, .nils, .nils, .nils, .nils, .nils, .nils] []⟩,
                        ⟨some 70, none, .mv (.t 9)⟩,
                        ⟨none, none, .store 8 (.t 2) (.t 69)⟩,
                        ⟨some 3, none, .mv (.t 70)⟩])
                      .ret)
                     .skip)))))
                (.keep [1, 2, 59, 60, 61]
                 (.ops [⟨some 71, none, .bin .add (.t 61) (.k (.int .i64 1))⟩,
                   ⟨some 61, none, .mv (.t 71)⟩]))))))))))
        (.keep [1, 2]
         (.seq
          (.ops [⟨some 72, none, .mkf 383 [.t 1]⟩,
            ⟨some 10, none, .mv (.t 72)⟩])
          (.seq
           (.draw [0, 1, 3, 7, 0, 16, 48, 112, 0, 256, 768, 1792, 3840, 0, 16128, 0, 65280, 0, 131072, 393216, 917504, 2096896, 0, 8388352, 0, 33554176, 67108863, 134217727, 268435455] [[1], [73], [74], [75], [1], [77], [78], [79], [1], [81], [82], [83], [84], [10], [86], [10], [88], [1], [90], [91], [92], [93], [10], [95], [10], [97], [76, 80, 85, 87, 89, 94, 96, 98], [2, 99], []] [⟨some 73, none, .load false 1 (.t 1)⟩,
             ⟨some 74, none, .idxS 5 (.t 73) (.k (.int .i64 0))⟩,
             ⟨some 75, none, .fldA 0 (.t 74)⟩,
             ⟨some 76, none, .load false 1 (.t 75)⟩,
             ⟨some 77, none, .load false 1 (.t 1)⟩,
             ⟨some 78, none, .idxS 5 (.t 77) (.k (.int .i64 0))⟩,
             ⟨some 79, none, .fldA 1 (.t 78)⟩,
             ⟨some 80, none, .load false 1 (.t 79)⟩,
             ⟨some 81, none, .load false 1 (.t 1)⟩,
             ⟨some 82, none, .idxS 5 (.t 81) (.k (.int .i64 0))⟩,
             ⟨some 83, none, .fldA 4 (.t 82)⟩,
             ⟨some 84, none, .load false 1 (.t 83)⟩,
             ⟨some 85, none, .call 384 [.t 84]⟩,
             ⟨some 86, none, .mv (.t 10)⟩,
             ⟨some 87, none, .callr (.t 86) [.k (.int .i64 1)]⟩,
             ⟨some 88, none, .mv (.t 10)⟩,
             ⟨some 89, none, .callr (.t 88) [.k (.int .i64 2)]⟩,
             ⟨some 90, none, .load false 1 (.t 1)⟩,
             ⟨some 91, none, .idxS 5 (.t 90) (.k (.int .i64 3))⟩,
             ⟨some 92, none, .fldA 4 (.t 91)⟩,
             ⟨some 93, none, .load false 1 (.t 92)⟩,
             ⟨some 94, none, .call 384 [.t 93]⟩,
             ⟨some 95, none, .mv (.t 10)⟩,
             ⟨some 96, none, .callr (.t 95) [.k (.int .i64 4)]⟩,
             ⟨some 97, none, .mv (.t 10)⟩,
             ⟨some 98, none, .callr (.t 97) [.k (.int .i64 5)]⟩,
             ⟨some 99, none, .build [.int .i64 0, .int .i64 0, .nils, .nils, .nils, .nils, .nils, .nils] [(0, 1, .t 76), (1, 1, .t 80), (2, 1, .t 85), (3, 1, .t 87), (4, 1, .t 89), (5, 1, .t 94), (6, 1, .t 96), (7, 1, .t 98)]⟩,
             ⟨none, none, .store 8 (.t 2) (.t 99)⟩,
             ⟨some 3, none, .mv (.k (.int .i64 0))⟩])
           (.keep [2, 3]
            .ret))))))))))) }
structure N369 (R : Env) : Prop where
  o369 : R.Fn 369 c369
  n152 : N152 R
  n153 : N153 R
  n383 : N383 R
  n384 : N384 R
end Go.UM

namespace Go.UM
open Go.AM
def c144 : IFn := { np := 2, rs := [.t 4], body :=
 (.seq
  (.ops [⟨some 4, none, .mv (.k (.bool false))⟩])
  (.seq
   (.seq
    (.ops [⟨some 6, none, .mv (.t 0)⟩,
      ⟨some 7, none, .lenS (.t 6)⟩,
      ⟨some 8, none, .mv (.t 1)⟩,
      ⟨some 9, none, .lenS (.t 8)⟩,
      ⟨some 10, none, .bin .neq (.t 7) (.t 9)⟩])
    (.keep [0, 1, 10]
     (.cond (.t 10)
      (.seq
       (.ops [⟨some 4, none, .mv (.k (.bool false))⟩])
       .ret)
      .skip)))
   (.keep [0, 1]
    (.seq
     (.seq
      (.ops [⟨some 5, none, .mv (.k (.int .i64 0))⟩])
      (.keep [0, 1, 5]
       (.block 0
        (.loop
         (.seq
          (.seq
           (.ops [⟨some 11, none, .mv (.t 5)⟩,
             ⟨some 12, none, .mv (.t 0)⟩,
             ⟨some 13, none, .lenS (.t 12)⟩,
             ⟨some 14, none, .bin .lss (.t 11) (.t 13)⟩])
           (.cond (.t 14)
            .skip
            (.exit 0)))
          (.keep [0, 1, 5]
           (.seq
            (.block 1
             (.seq
              (.draw [0, 0, 3, 7, 0, 0, 48, 112, 255] [[0], [5], [17, 18], [19], [1], [5], [21, 22], [23], [20, 24]] [⟨some 17, none, .mv (.t 0)⟩,
                ⟨some 18, none, .mv (.t 5)⟩,
                ⟨some 19, none, .idxS 3 (.t 17) (.t 18)⟩,
                ⟨some 20, none, .load true 3 (.t 19)⟩,
                ⟨some 21, none, .mv (.t 1)⟩,
                ⟨some 22, none, .mv (.t 5)⟩,
                ⟨some 23, none, .idxS 3 (.t 21) (.t 22)⟩,
                ⟨some 24, none, .load true 3 (.t 23)⟩,
                ⟨some 25, none, .eqa true [.i, .i, .i] (.t 20) (.t 24)⟩])
              (.keep [0, 1, 5, 25]
               (.cond (.t 25)
                (.seq
                 (.ops [⟨some 4, none, .mv (.k (.bool false))⟩])
                 .ret)
                .skip))))
            (.keep [0, 1, 5]
             (.ops [⟨some 15, none, .mv (.t 5)⟩,
               ⟨some 16, none, .bin .add (.t 15) (.k (.int .i64 1))⟩,
               ⟨some 5, none, .mv (.t 16)⟩])))))))))
     (.keep []
      (.seq
       (.ops [⟨some 4, none, .mv (.k (.bool true))⟩])
       .ret)))))) }
structure N144 (R : Env) : Prop where
  o144 : R.Fn 144 c144
def c145 : IFn := { np := 2, rs := [.t 4], body :=
 (.seq
  (.ops [⟨some 4, none, .mv (.k (.bool false))⟩])
  (.seq
   (.seq
    (.ops [⟨some 6, none, .mv (.t 0)⟩,
      ⟨some 7, none, .lenS (.t 6)⟩,
      ⟨some 8, none, .mv (.t 1)⟩,
      ⟨some 9, none, .lenS (.t 8)⟩,
      ⟨some 10, none, .bin .neq (.t 7) (.t 9)⟩])
    (.keep [0, 1, 10]
     (.cond (.t 10)
      (.seq
       (.ops [⟨some 4, none, .mv (.k (.bool false))⟩])
       .ret)
      .skip)))
   (.keep [0, 1]
    (.seq
     (.seq
      (.ops [⟨some 5, none, .mv (.k (.int .i64 0))⟩])
      (.keep [0, 1, 5]
       (.block 0
        (.loop
         (.seq
          (.seq
           (.ops [⟨some 11, none, .mv (.t 5)⟩,
             ⟨some 12, none, .mv (.t 0)⟩,
             ⟨some 13, none, .lenS (.t 12)⟩,
             ⟨some 14, none, .bin .lss (.t 11) (.t 13)⟩])
           (.cond (.t 14)
            .skip
            (.exit 0)))
          (.keep [0, 1, 5]
           (.seq
            (.block 1
             (.seq
              (.draw [0, 0, 3, 7, 0, 0, 48, 112, 255] [[0], [5], [17, 18], [19], [1], [5], [21, 22], [23], [20, 24]] [⟨some 17, none, .mv (.t 0)⟩,
                ⟨some 18, none, .mv (.t 5)⟩,
                ⟨some 19, none, .idxS 1 (.t 17) (.t 18)⟩,
                ⟨some 20, none, .load false 1 (.t 19)⟩,
                ⟨some 21, none, .mv (.t 1)⟩,
                ⟨some 22, none, .mv (.t 5)⟩,
                ⟨some 23, none, .idxS 1 (.t 21) (.t 22)⟩,
                ⟨some 24, none, .load false 1 (.t 23)⟩,
                ⟨some 25, none, .bin .neq (.t 20) (.t 24)⟩])
              (.keep [0, 1, 5, 25]
               (.cond (.t 25)
                (.seq
                 (.ops [⟨some 4, none, .mv (.k (.bool false))⟩])
                 .ret)
                .skip))))
            (.keep [0, 1, 5]
             (.ops [⟨some 15, none, .mv (.t 5)⟩,
               ⟨some 16, none, .bin .add (.t 15) (.k (.int .i64 1))⟩,
               ⟨some 5, none, .mv (.t 16)⟩])))))))))
     (.keep []
      (.seq
       (.ops [⟨some 4, none, .mv (.k (.bool true))⟩])
       .ret)))))) }
structure N145 (R : Env) : Prop where
  o145 : R.Fn 145 c145
def c117 : IFn := { np := 2, rs := [.t 4], body :=
 (.seq
  (.ops [⟨some 2, none, .box 16 (.t 0)⟩,
    ⟨some 3, none, .box 16 (.t 1)⟩,
    ⟨some 4, none, .mv (.k (.bool false))⟩])
  (.seq
   (.ops [⟨some 5, none, .fldA 0 (.t 2)⟩,
     ⟨some 6, none, .load false 1 (.t 5)⟩,
     ⟨some 7, none, .fldA 0 (.t 3)⟩,
     ⟨some 8, none, .load false 1 (.t 7)⟩,
     ⟨some 9, none, .bin .eql (.t 6) (.t 8)⟩,
     ⟨some 10, none, .mv (.t 9)⟩,
     ⟨some 11, some (10, true), .fldA 1 (.t 2)⟩,
     ⟨some 12, some (10, true), .load false 1 (.t 11)⟩,
     ⟨some 13, some (10, true), .fldA 1 (.t 3)⟩,
     ⟨some 14, some (10, true), .load false 1 (.t 13)⟩,
     ⟨some 15, some (10, true), .bin .eql (.t 12) (.t 14)⟩,
     ⟨some 16, none, .pick (.t 10) (.t 15) (.k (.bool false))⟩,
     ⟨some 17, none, .mv (.t 16)⟩,
     ⟨some 18, some (17, true), .fldA 2 (.t 2)⟩,
     ⟨some 19, some (17, true), .load false 1 (.t 18)⟩,
     ⟨some 20, some (17, true), .fldA 2 (.t 3)⟩,
     ⟨some 21, some (17, true), .load false 1 (.t 20)⟩,
     ⟨some 22, some (17, true), .call 144 [.t 19, .t 21]⟩,
     ⟨some 23, none, .pick (.t 17) (.t 22) (.k (.bool false))⟩,
     ⟨some 24, none, .mv (.t 23)⟩,
     ⟨some 25, some (24, true), .fldA 5 (.t 2)⟩,
     ⟨some 26, some (24, true), .load false 1 (.t 25)⟩,
     ⟨some 27, some (24, true), .fldA 5 (.t 3)⟩,
     ⟨some 28, some (24, true), .load false 1 (.t 27)⟩,
     ⟨some 29, some (24, true), .call 144 [.t 26, .t 28]⟩,
     ⟨some 30, none, .pick (.t 24) (.t 29) (.k (.bool false))⟩,
     ⟨some 31, none, .mv (.t 30)⟩,
     ⟨some 32, some (31, true), .fldA 3 (.t 2)⟩,
     ⟨some 33, some (31, true), .load false 1 (.t 32)⟩,
     ⟨some 34, some (31, true), .fldA 3 (.t 3)⟩,
     ⟨some 35, some (31, true), .load false 1 (.t 34)⟩,
     ⟨some 36, some (31, true), .call 145 [.t 33, .t 35]⟩,
     ⟨some 37, none, .pick (.t 31) (.t 36) (.k (.bool false))⟩,
     ⟨some 38, none, .mv (.t 37)⟩,
     ⟨some 39, some (38, true), .fldA 4 (.t 2)⟩,
     ⟨some 40, some (38, true), .load false 1 (.t 39)⟩,
     ⟨some 41, some (38, true), .fldA 4 (.t 3)⟩,
     ⟨some 42, some (38, true), .load false 1 (.t 41)⟩,
     ⟨some 43, some (38, true), .call 145 [.t 40, .t 42]⟩,
     ⟨some 44, none, .pick (.t 38) (.t 43) (.k (.bool false))⟩,
     ⟨some 45, none, .mv (.t 44)⟩,
     ⟨some 46, some (45, true), .fldA 6 (.t 2)⟩,
     ⟨some 47, some (45, true), .load false 1 (.t 46)⟩,
     ⟨some 48, some (45, true), .fldA 6 (.t 3)⟩,
     ⟨some 49, some (45, true), .load false 1 (.t 48)⟩,
     ⟨some 50, some (45, true), .call 145 [.t 47, .t 49]⟩,
     ⟨some 51, none, .pick (.t 45) (.t 50) (.k (.bool false))⟩,
     ⟨some 52, none, .mv (.t 51)⟩,
     ⟨some 53, some (52, true), .fldA 7 (.t 2)⟩,
     ⟨some 54, some (52, true), .load false 1 (.t 53)⟩,
     ⟨some 55, some (52, true), .fldA 7 (.t 3)⟩,
     ⟨some 56, some (52, true), .load false 1 (.t 55)⟩,
     ⟨some 57, some (52, true), .call 145 [.t 54, .t 56]⟩,
     ⟨some 58, none, .pick (.t 52) (.t 57) (.k (.bool false))⟩,
     ⟨some 4, none, .mv (.t 58)⟩])
   (.keep [4]
    .ret))) }
structure N117 (R : Env) : Prop where
  o117 : R.Fn 117 c117
  n144 : N144 R
  n145 : N145 R
end Go.UM

namespace Go.UM
open Go.AM
def c159 : IFn := { np := 1, rs := [.t 2], body :=
 (.seq
  (.ops [⟨some 2, none, .mv (.k (.nils))⟩])
  (.seq
   (.ops [⟨some 3, none, .mv (.k (.nils))⟩])
   (.seq
    (.seq
     (.ops [⟨some 4, none, .mv (.k (.int .i64 0))⟩])
     (.keep [0, 3, 4]
      (.block 0
       (.loop
        (.seq
         (.seq
          (.ops [⟨some 5, none, .mv (.t 4)⟩,
            ⟨some 6, none, .mv (.t 0)⟩,
            ⟨some 7, none, .lenS (.t 6)⟩,
            ⟨some 8, none, .bin .lss (.t 5) (.t 7)⟩])
          (.cond (.t 8)
           .skip
           (.exit 0)))
         (.keep [0, 3, 4]
          (.seq
           (.block 1
            (.draw [0, 0, 0, 6, 14, 30, 0, 0, 192, 448, 960, 0, 0, 6144, 14336, 30720, 65534, 131071, 262143] [[3], [0], [4], [12, 13], [14], [15], [0], [4], [17, 18], [19], [20], [0], [4], [22, 23], [24], [25], [16, 21, 26], [11, 27], [28]] [⟨some 11, none, .mv (.t 3)⟩,
              ⟨some 12, none, .mv (.t 0)⟩,
              ⟨some 13, none, .mv (.t 4)⟩,
              ⟨some 14, none, .idxS 3 (.t 12) (.t 13)⟩,
              ⟨some 15, none, .idxA 3 1 (.t 14) (.k (.int .i64 0))⟩,
              ⟨some 16, none, .load false 1 (.t 15)⟩,
              ⟨some 17, none, .mv (.t 0)⟩,
              ⟨some 18, none, .mv (.t 4)⟩,
              ⟨some 19, none, .idxS 3 (.t 17) (.t 18)⟩,
              ⟨some 20, none, .idxA 3 1 (.t 19) (.k (.int .i64 1))⟩,
              ⟨some 21, none, .load false 1 (.t 20)⟩,
              ⟨some 22, none, .mv (.t 0)⟩,
              ⟨some 23, none, .mv (.t 4)⟩,
              ⟨some 24, none, .idxS 3 (.t 22) (.t 23)⟩,
              ⟨some 25, none, .idxA 3 1 (.t 24) (.k (.int .i64 2))⟩,
              ⟨some 26, none, .load false 1 (.t 25)⟩,
              ⟨some 27, none, .bslice 10 1 3 [.int .i64 0] [(0, .t 16), (1, .t 21), (2, .t 26)]⟩,
              ⟨some 28, none, .app 10 1 (.t 11) (.t 27)⟩,
              ⟨some 3, none, .mv (.t 28)⟩]))
           (.keep [0, 3, 4]
            (.ops [⟨some 9, none, .mv (.t 4)⟩,
              ⟨some 10, none, .bin .add (.t 9) (.k (.int .i64 1))⟩,
              ⟨some 4, none, .mv (.t 10)⟩])))))))))
    (.keep [3]
     (.seq
      (.ops [⟨some 29, none, .mv (.t 3)⟩,
        ⟨some 2, none, .mv (.t 29)⟩])
      .ret))))) }
structure N159 (R : Env) : Prop where
  o159 : R.Fn 159 c159
def c160 : IFn := { np := 0, rs := [.t 0], body :=
 (.seq
  (.ops [⟨some 0, none, .mv (.k (.nils))⟩])
  (.seq
   (.ops [⟨some 1, none, .bslice 10 1 6 [.int .i64 0] [(0, .k (.int .i64 3)), (1, .k (.int .i64 1)), (2, .k (.int .i64 1)), (3, .k (.int .i64 3)), (4, .k (.int .i64 1)), (5, .k (.int .i64 1))]⟩,
     ⟨some 0, none, .mv (.t 1)⟩])
   .ret)) }
structure N160 (R : Env) : Prop where
  o160 : R.Fn 160 c160
def c161 : IFn := { np := 0, rs := [.t 0], body :=
 (.seq
  (.ops [⟨some 0, none, .mv (.k (.nils))⟩])
  (.seq
   (.ops [⟨some 1, none, .bslice 23 1 6 [.str []] [(0, .k (.str [66, 69, 65, 85, 84, 89])), (1, .k (.str [65, 76, 80, 72, 65])), (2, .k (.str [68, 69, 80, 84, 72])), (3, .k (.str [78, 79, 82, 77, 65, 76])), (4, .k (.str [65, 83, 83, 69, 84])), (5, .k (.str [76, 65, 66, 69, 76]))]⟩,
     ⟨some 0, none, .mv (.t 1)⟩])
   .ret)) }
structure N161 (R : Env) : Prop where
  o161 : R.Fn 161 c161
def c162 : IFn := { np := 1, rs := [.t 2], body :=
 (.seq
  (.ops [⟨some 1, none, .box 20 (.t 0)⟩,
    ⟨some 2, none, .mv (.k (.int .i64 0))⟩])
  (.seq
   (.seq
    (.ops [⟨some 5, none, .fldA 0 (.t 1)⟩,
      ⟨some 6, none, .load false 1 (.t 5)⟩,
      ⟨some 7, none, .bin .lss (.t 6) (.k (.int .i64 1))⟩,
      ⟨some 8, none, .mv (.t 7)⟩,
      ⟨some 9, some (8, false), .fldA 0 (.t 1)⟩,
      ⟨some 10, some (8, false), .load false 1 (.t 9)⟩,
      ⟨some 11, some (8, false), .bin .gtr (.t 10) (.k (.int .i64 64))⟩,
      ⟨some 12, none, .pick (.t 8) (.k (.bool true)) (.t 11)⟩,
      ⟨some 13, none, .mv (.t 12)⟩,
      ⟨some 14, some (13, false), .fldA 1 (.t 1)⟩,
      ⟨some 15, some (13, false), .load false 1 (.t 14)⟩,
      ⟨some 16, some (13, false), .bin .lss (.t 15) (.k (.int .i64 1))⟩,
      ⟨some 17, none, .pick (.t 13) (.k (.bool true)) (.t 16)⟩,
      ⟨some 18, none, .mv (.t 17)⟩,
      ⟨some 19, some (18, false), .fldA 1 (.t 1)⟩,
      ⟨some 20, some (18, false), .load false 1 (.t 19)⟩,
      ⟨some 21, some (18, false), .bin .gtr (.t 20) (.k (.int .i64 64))⟩,
      ⟨some 22, none, .pick (.t 18) (.k (.bool true)) (.t 21)⟩,
      ⟨some 23, none, .mv (.t 22)⟩,
      ⟨some 24, some (23, false), .fldA 2 (.t 1)⟩,
      ⟨some 25, some (23, false), .load false 1 (.t 24)⟩,
      ⟨some 26, some (23, false), .bin .lss (.t 25) (.k (.int .i64 1))⟩,
      ⟨some 27, none, .pick (.t 23) (.k (.bool true)) (.t 26)⟩,
      ⟨some 28, none, .mv (.t 27)⟩,
      ⟨some 29, some (28, false), .fldA 2 (.t 1)⟩,
      ⟨some 30, some (28, false), .load false 1 (.t 29)⟩,
      ⟨some 31, some (28, false), .bin .gtr (.t 30) (.k (.int .i64 4))⟩,
      ⟨some 32, none, .pick (.t 28) (.k (.bool true)) (.t 31)⟩])
    (.keep [1, 32]
     (.cond (.t 32)
      (.seq
       (.ops [⟨some 2, none, .mv (.k (.int .i64 2))⟩])
       .ret)
      .skip)))
   (.keep [1]
    (.seq
     (.seq
      (.ops [⟨some 33, none, .fldA 3 (.t 1)⟩,
        ⟨some 34, none, .load false 1 (.t 33)⟩,
        ⟨some 35, none, .lenT (.t 34)⟩,
        ⟨some 36, none, .bin .lss (.t 35) (.k (.int .i64 1))⟩,
        ⟨some 37, none, .mv (.t 36)⟩,
        ⟨some 38, some (37, false), .fldA 3 (.t 1)⟩,
        ⟨some 39, some (37, false), .load false 1 (.t 38)⟩,
        ⟨some 40, some (37, false), .lenT (.t 39)⟩,
        ⟨some 41, some (37, false), .bin .gtr (.t 40) (.k (.int .i64 16))⟩,
        ⟨some 42, none, .pick (.t 37) (.k (.bool true)) (.t 41)⟩,
        ⟨some 43, none, .mv (.t 42)⟩,
        ⟨some 44, some (43, false), .fldA 4 (.t 1)⟩,
        ⟨some 45, some (43, false), .load false 1 (.t 44)⟩,
        ⟨some 46, some (43, false), .lenS (.t 45)⟩,
        ⟨some 47, some (43, false), .fldA 0 (.t 1)⟩,
        ⟨some 48, some (43, false), .load false 1 (.t 47)⟩,
        ⟨some 49, some (43, false), .fldA 1 (.t 1)⟩,
        ⟨some 50, some (43, false), .load false 1 (.t 49)⟩,
        ⟨some 51, some (43, false), .bin .mul (.t 48) (.t 50)⟩,
        ⟨some 52, some (43, false), .fldA 2 (.t 1)⟩,
        ⟨some 53, some (43, false), .load false 1 (.t 52)⟩,
        ⟨some 54, some (43, false), .bin .mul (.t 51) (.t 53)⟩,
        ⟨some 55, some (43, false), .bin .neq (.t 46) (.t 54)⟩,
        ⟨some 56, none, .pick (.t 43) (.k (.bool true)) (.t 55)⟩])
      (.keep [1, 56]
       (.cond (.t 56)
        (.seq
         (.ops [⟨some 2, none, .mv (.k (.int .i64 5))⟩])
         .ret)
        .skip)))
     (.keep [1]
      (.seq
       (.seq
        (.ops [⟨some 3, none, .mv (.k (.int .i64 0))⟩])
        (.keep [1, 3]
         (.block 0
          (.loop
           (.seq
            (.seq
             (.ops [⟨some 57, none, .mv (.t 3)⟩,
               ⟨some 58, none, .fldA 3 (.t 1)⟩,
               ⟨some 59, none, .load false 1 (.t 58)⟩,
               ⟨some 60, none, .lenT (.t 59)⟩,
               ⟨some 61, none, .bin .lss (.t 57) (.t 60)⟩])
             (.keep [1, 3, 61]
              (.cond (.t 61)
               .skip
               (.exit 0))))
            (.keep [1, 3]
             (.seq
              (.block 1
               (.seq
                (.ops [⟨some 64, none, .fldA 3 (.t 1)⟩,
                  ⟨some 65, none, .load false 1 (.t 64)⟩,
                  ⟨some 66, none, .mv (.t 3)⟩,
                  ⟨some 67, none, .idxT (.t 65) (.t 66)⟩,
                  ⟨some 68, none, .bin .lss (.t 67) (.k (.int .u8 65))⟩,
                  ⟨some 69, none, .mv (.t 68)⟩,
                  ⟨some 70, some (69, false), .fldA 3 (.t 1)⟩,
                  ⟨some 71, some (69, false), .load false 1 (.t 70)⟩,
                  ⟨some 72, some (69, false), .mv (.t 3)⟩,
                  ⟨some 73, some (69, false), .idxT (.t 71) (.t 72)⟩,
                  ⟨some 74, some (69, false), .bin .gtr (.t 73) (.k (.int .u8 90))⟩,
                  ⟨some 75, none, .pick (.t 69) (.k (.bool true)) (.t 74)⟩])
                (.keep [1, 3, 75]
                 (.cond (.t 75)
                  (.seq
                   (.ops [⟨some 2, none, .mv (.k (.int .i64 5))⟩])
                   .ret)
                  .skip))))
              (.keep [1, 3]
               (.ops [⟨some 62, none, .mv (.t 3)⟩,
                 ⟨some 63, none, .bin .add (.t 62) (.k (.int .i64 1))⟩,
                 ⟨some 3, none, .mv (.t 63)⟩])))))))))
       (.keep [1]
        (.seq
         (.seq
          (.ops [⟨some 4, none, .mv (.k (.int .i64 0))⟩])
          (.keep [1, 4]
           (.block 2
            (.loop
             (.seq
              (.seq
               (.ops [⟨some 76, none, .mv (.t 4)⟩,
                 ⟨some 77, none, .fldA 4 (.t 1)⟩,
                 ⟨some 78, none, .load false 1 (.t 77)⟩,
                 ⟨some 79, none, .lenS (.t 78)⟩,
                 ⟨some 80, none, .bin .lss (.t 76) (.t 79)⟩])
               (.keep [1, 4, 80]
                (.cond (.t 80)
                 .skip
                 (.exit 2))))
              (.keep [1, 4]
               (.seq
                (.block 3
                 (.seq
                  (.ops [⟨some 83, none, .fldA 4 (.t 1)⟩,
                    ⟨some 84, none, .load false 1 (.t 83)⟩,
                    ⟨some 85, none, .mv (.t 4)⟩,
                    ⟨some 86, none, .idxS 1 (.t 84) (.t 85)⟩,
                    ⟨some 87, none, .load false 1 (.t 86)⟩,
                    ⟨some 88, none, .bin .lss (.t 87) (.k (.int .i64 0))⟩,
                    ⟨some 89, none, .mv (.t 88)⟩,
                    ⟨some 90, some (89, false), .fldA 4 (.t 1)⟩,
                    ⟨some 91, some (89, false), .load false 1 (.t 90)⟩,
                    ⟨some 92, some (89, false), .mv (.t 4)⟩,
                    ⟨some 93, some (89, false), .idxS 1 (.t 91) (.t 92)⟩,
                    ⟨some 94, some (89, false), .load false 1 (.t 93)⟩,
                    ⟨some 95, some (89, false), .bin .gtr (.t 94) (.k (.int .i64 65535))⟩,
                    ⟨some 96, none, .pick (.t 89) (.k (.bool true)) (.t 95)⟩])
                  (.keep [1, 4, 96]
                   (.cond (.t 96)
                    (.seq
                     (.ops [⟨some 2, none, .mv (.k (.int .i64 5))⟩])
                     .ret)
                    .skip))))
                (.keep [1, 4]
                 (.ops [⟨some 81, none, .mv (.t 4)⟩,
                   ⟨some 82, none, .bin .add (.t 81) (.k (.int .i64 1))⟩,
                   ⟨some 4, none, .mv (.t 82)⟩])))))))))
         (.keep []
          (.seq
           (.ops [⟨some 2, none, .mv (.k (.int .i64 0))⟩])
           .ret)))))))))) }
structure N162 (R : Env) : Prop where
  o162 : R.Fn 162 c162
def c155 : IFn := { np := 1, rs := [.t 2, .t 3], body :=
 (.seq
  (.ops [⟨some 1, none, .box 16 (.t 0)⟩,
    ⟨some 2, none, .mv (.k (.nils))⟩,
    ⟨some 3, none, .mv (.k (.int .i64 0))⟩])
  (.seq
   (.draw [0, 1, 3, 0, 8, 0, 32, 0, 128, 391, 0, 1024, 0, 4096, 16383, 32767] [[1], [9], [10], [1], [12], [1], [14], [1], [16], [17], [1], [19], [1], [21], [11, 13, 15, 18, 20, 22], [23]] [⟨some 9, none, .fldA 2 (.t 1)⟩,
     ⟨some 10, none, .load false 1 (.t 9)⟩,
     ⟨some 11, none, .call 159 [.t 10]⟩,
     ⟨some 12, none, .fldA 3 (.t 1)⟩,
     ⟨some 13, none, .load false 1 (.t 12)⟩,
     ⟨some 14, none, .fldA 4 (.t 1)⟩,
     ⟨some 15, none, .load false 1 (.t 14)⟩,
     ⟨some 16, none, .fldA 5 (.t 1)⟩,
     ⟨some 17, none, .load false 1 (.t 16)⟩,
     ⟨some 18, none, .call 159 [.t 17]⟩,
     ⟨some 19, none, .fldA 6 (.t 1)⟩,
     ⟨some 20, none, .load false 1 (.t 19)⟩,
     ⟨some 21, none, .fldA 7 (.t 1)⟩,
     ⟨some 22, none, .load false 1 (.t 21)⟩,
     ⟨some 23, none, .bslice 22 1 6 [.nils] [(0, .t 11), (1, .t 13), (2, .t 15), (3, .t 18), (4, .t 20), (5, .t 22)]⟩,
     ⟨some 4, none, .mv (.t 23)⟩])
   (.keep [1, 4]
    (.seq
     (.ops [⟨some 5, none, .mv (.k (.nils))⟩])
     (.seq
      (.seq
       (.ops [⟨some 6, none, .mv (.k (.int .i64 0))⟩])
       (.keep [1, 4, 5, 6]
        (.block 0
         (.loop
          (.seq
           (.seq
            (.ops [⟨some 24, none, .mv (.t 6)⟩,
              ⟨some 25, none, .bin .lss (.t 24) (.k (.int .i64 6))⟩])
            (.cond (.t 25)
             .skip
             (.exit 0)))
           (.keep [1, 4, 5, 6]
            (.seq
             (.block 1
              (.seq
               (.draw [0, 1, 0, 4, 0, 0, 48, 112, 16, 0, 784, 1808, 0, 0, 12288, 28672, 65535, 0, 262143] [[1], [28], [1], [30], [], [6], [32, 33], [34], [], [6], [36, 37], [38], [4], [6], [40, 41], [42], [29, 31, 35, 39, 43], [], [7, 44]] [⟨some 28, none, .fldA 0 (.t 1)⟩,
                 ⟨some 29, none, .load false 1 (.t 28)⟩,
                 ⟨some 30, none, .fldA 1 (.t 1)⟩,
                 ⟨some 31, none, .load false 1 (.t 30)⟩,
                 ⟨some 32, none, .call 160 []⟩,
                 ⟨some 33, none, .mv (.t 6)⟩,
                 ⟨some 34, none, .idxS 1 (.t 32) (.t 33)⟩,
                 ⟨some 35, none, .load false 1 (.t 34)⟩,
                 ⟨some 36, none, .call 161 []⟩,
                 ⟨some 37, none, .mv (.t 6)⟩,
                 ⟨some 38, none, .idxS 1 (.t 36) (.t 37)⟩,
                 ⟨some 39, none, .load false 1 (.t 38)⟩,
                 ⟨some 40, none, .mv (.t 4)⟩,
                 ⟨some 41, none, .mv (.t 6)⟩,
                 ⟨some 42, none, .idxS 1 (.t 40) (.t 41)⟩,
                 ⟨some 43, none, .load false 1 (.t 42)⟩,
                 ⟨some 44, none, .build [.int .i64 0, .int .i64 0, .int .i64 0, .str [], .nils] [(0, 1, .t 29), (1, 1, .t 31), (2, 1, .t 35), (3, 1, .t 39), (4, 1, .t 43)]⟩,
                 ⟨some 7, none, .alloc 20 [.int .i64 0, .int .i64 0, .int .i64 0, .str [], .nils]⟩,
                 ⟨none, none, .store 5 (.t 7) (.t 44)⟩])
               (.keep [1, 4, 5, 6, 7]
                (.seq
                 (.seq
                  (.ops [⟨some 45, none, .load true 5 (.t 7)⟩,
                    ⟨some 46, none, .call 162 [.t 45]⟩,
                    ⟨some 8, none, .mv (.t 46)⟩])
                  (.seq
                   (.ops [⟨some 47, none, .mv (.t 8)⟩,
                     ⟨some 48, none, .bin .neq (.t 47) (.k (.int .i64 0))⟩])
                   (.cond (.t 48)
                    (.seq
                     (.ops [⟨some 49, none, .mv (.t 8)⟩,
                       ⟨some 2, none, .mv (.k (.nils))⟩,
                       ⟨some 3, none, .mv (.t 49)⟩])
                     .ret)
                    .skip)))
                 (.keep [1, 4, 5, 6, 7]
                  (.ops [⟨some 50, none, .mv (.t 5)⟩,
                    ⟨some 51, none, .load true 5 (.t 7)⟩,
                    ⟨some 52, none, .bslice 20 5 1 [.int .i64 0, .int .i64 0, .int .i64 0, .str [], .nils] [(0, .t 51)]⟩,
                    ⟨some 53, none, .app 20 5 (.t 50) (.t 52)⟩,
                    ⟨some 5, none, .mv (.t 53)⟩]))))))
             (.keep [1, 4, 5, 6]
              (.ops [⟨some 26, none, .mv (.t 6)⟩,
                ⟨some 27, none, .bin .add (.t 26) (.k (.int .i64 1))⟩,
                ⟨some 6, none, .mv (.t 27)⟩])))))))))
      (.keep [5]
       (.seq
        (.ops [⟨some 54, none, .mv (.t 5)⟩,
          ⟨some 2, none, .mv (.t 54)⟩,
          ⟨some 3, none, .mv (.k (.int .i64 0))⟩])
        .ret))))))) }
structure N155 (R : Env) : Prop where
  o155 : R.Fn 155 c155
  n159 : N159 R
  n160 : N160 R
  n161 : N161 R
  n162 : N162 R
def c175 : IFn := { np := 2, rs := [.t 4], body :=
 (.seq
  (.ops [⟨some 2, none, .box 20 (.t 0)⟩,
    ⟨some 3, none, .box 20 (.t 1)⟩,
    ⟨some 4, none, .mv (.k (.bool false))⟩])
  (.seq
   (.ops [⟨some 5, none, .fldA 0 (.t 2)⟩,
     ⟨some 6, none, .load false 1 (.t 5)⟩,
     ⟨some 7, none, .fldA 0 (.t 3)⟩,
     ⟨some 8, none, .load false 1 (.t 7)⟩,
     ⟨some 9, none, .bin .eql (.t 6) (.t 8)⟩,
     ⟨some 10, none, .mv (.t 9)⟩,
     ⟨some 11, some (10, true), .fldA 1 (.t 2)⟩,
     ⟨some 12, some (10, true), .load false 1 (.t 11)⟩,
     ⟨some 13, some (10, true), .fldA 1 (.t 3)⟩,
     ⟨some 14, some (10, true), .load false 1 (.t 13)⟩,
     ⟨some 15, some (10, true), .bin .eql (.t 12) (.t 14)⟩,
     ⟨some 16, none, .pick (.t 10) (.t 15) (.k (.bool false))⟩,
     ⟨some 17, none, .mv (.t 16)⟩,
     ⟨some 18, some (17, true), .fldA 2 (.t 2)⟩,
     ⟨some 19, some (17, true), .load false 1 (.t 18)⟩,
     ⟨some 20, some (17, true), .fldA 2 (.t 3)⟩,
     ⟨some 21, some (17, true), .load false 1 (.t 20)⟩,
     ⟨some 22, some (17, true), .bin .eql (.t 19) (.t 21)⟩,
     ⟨some 23, none, .pick (.t 17) (.t 22) (.k (.bool false))⟩,
     ⟨some 24, none, .mv (.t 23)⟩,
     ⟨some 25, some (24, true), .fldA 3 (.t 2)⟩,
     ⟨some 26, some (24, true), .load false 1 (.t 25)⟩,
     ⟨some 27, some (24, true), .fldA 3 (.t 3)⟩,
     ⟨some 28, some (24, true), .load false 1 (.t 27)⟩,
     ⟨some 29, some (24, true), .bst .eql (.t 26) (.t 28)⟩,
     ⟨some 30, none, .pick (.t 24) (.t 29) (.k (.bool false))⟩,
     ⟨some 31, none, .mv (.t 30)⟩,
     ⟨some 32, some (31, true), .fldA 4 (.t 2)⟩,
     ⟨some 33, some (31, true), .load false 1 (.t 32)⟩,
     ⟨some 34, some (31, true), .fldA 4 (.t 3)⟩,
     ⟨some 35, some (31, true), .load false 1 (.t 34)⟩,
     ⟨some 36, some (31, true), .call 145 [.t 33, .t 35]⟩,
     ⟨some 37, none, .pick (.t 31) (.t 36) (.k (.bool false))⟩,
     ⟨some 4, none, .mv (.t 37)⟩])
   (.keep [4]
    .ret))) }
structure N175 (R : Env) : Prop where
  o175 : R.Fn 175 c175
  n145 : N145 R
def c385 : IFn := { np := 1, rs := [.t 2], body :=
 (.seq
  (.ops [⟨some 2, none, .mv (.k (.nils))⟩])
  (.seq
   (.ops [⟨some 3, none, .mv (.k (.nils))⟩])
   (.seq
    (.seq
     (.ops [⟨some 4, none, .mv (.k (.int .i64 0))⟩])
     (.keep [0, 3, 4]
      (.block 0
       (.loop
        (.seq
         (.seq
          (.ops [⟨some 5, none, .mv (.t 4)⟩,
            ⟨some 6, none, .bin .add (.t 5) (.k (.int .i64 2))⟩,
            ⟨some 7, none, .mv (.t 0)⟩,
            ⟨some 8, none, .lenS (.t 7)⟩,
            ⟨some 9, none, .bin .lss (.t 6) (.t 8)⟩])
          (.keep [0, 3, 4, 9]
           (.cond (.t 9)
            .skip
            (.exit 0))))
         (.keep [0, 3, 4]
          (.seq
           (.block 1
            (.draw [0, 0, 0, 6, 14, 0, 0, 64, 224, 480, 0, 0, 2048, 7168, 15360, 32766, 65534, 131071, 262143] [[3], [0], [4], [13, 14], [15], [0], [4], [18], [17, 19], [20], [0], [4], [23], [22, 24], [25], [16, 21, 26], [27], [12, 28], [29]] [⟨some 12, none, .mv (.t 3)⟩,
              ⟨some 13, none, .mv (.t 0)⟩,
              ⟨some 14, none, .mv (.t 4)⟩,
              ⟨some 15, none, .idxS 1 (.t 13) (.t 14)⟩,
              ⟨some 16, none, .load false 1 (.t 15)⟩,
              ⟨some 17, none, .mv (.t 0)⟩,
              ⟨some 18, none, .mv (.t 4)⟩,
              ⟨some 19, none, .bin .add (.t 18) (.k (.int .i64 1))⟩,
              ⟨some 20, none, .idxS 1 (.t 17) (.t 19)⟩,
              ⟨some 21, none, .load false 1 (.t 20)⟩,
              ⟨some 22, none, .mv (.t 0)⟩,
              ⟨some 23, none, .mv (.t 4)⟩,
              ⟨some 24, none, .bin .add (.t 23) (.k (.int .i64 2))⟩,
              ⟨some 25, none, .idxS 1 (.t 22) (.t 24)⟩,
              ⟨some 26, none, .load false 1 (.t 25)⟩,
              ⟨some 27, none, .build [.int .i64 0, .int .i64 0, .int .i64 0] [(0, 1, .t 16), (1, 1, .t 21), (2, 1, .t 26)]⟩,
              ⟨some 28, none, .bslice 13 3 1 [.int .i64 0, .int .i64 0, .int .i64 0] [(0, .t 27)]⟩,
              ⟨some 29, none, .app 13 3 (.t 12) (.t 28)⟩,
              ⟨some 3, none, .mv (.t 29)⟩]))
           (.keep [0, 3, 4]
            (.ops [⟨some 10, none, .mv (.t 4)⟩,
              ⟨some 11, none, .bin .add (.t 10) (.k (.int .i64 3))⟩,
              ⟨some 4, none, .mv (.t 11)⟩])))))))))
    (.keep [3]
     (.seq
      (.ops [⟨some 30, none, .mv (.t 3)⟩,
        ⟨some 2, none, .mv (.t 30)⟩])
      .ret))))) }
structure N385 (R : Env) : Prop where
  o385 : R.Fn 385 c385
def c370 : IFn := { np := 1, rs := [.cell 2 true 8, .t 3], body :=
 (.seq
  (.ops [⟨some 2, none, .alloc 16 [.int .i64 0, .int .i64 0, .nils, .nils, .nils, .nils, .nils, .nils]⟩,
    ⟨some 3, none, .mv (.k (.int .i64 0))⟩])
  (.seq
   (.seq
    (.ops [⟨some 7, none, .mv (.t 0)⟩,
      ⟨some 8, none, .lenS (.t 7)⟩,
      ⟨some 9, none, .bin .neq (.t 8) (.k (.int .i64 6))⟩])
    (.cond (.t 9)
     (.seq
      (.ops [⟨some 10, none, .build [.int .i64 0, .int .i64 0, .nils, .nils, .nils, .nils, .nils, .nils] []⟩,
        ⟨none, none, .store 8 (.t 2) (.t 10)⟩,
        ⟨some 3, none, .mv (.k (.int .i64 5))⟩])
      .ret)
     .skip))
   (.keep [0, 2]
    (.seq
     (.seq
      (.ops [⟨some 4, none, .mv (.k (.int .i64 0))⟩])
      (.keep [0, 2, 4]
       (.block 0
        (.loop
         (.seq
          (.seq
           (.ops [⟨some 11, none, .mv (.t 4)⟩,
             ⟨some 12, none, .bin .lss (.t 11) (.k (.int .i64 6))⟩])
           (.cond (.t 12)
            .skip
            (.exit 0)))
          (.keep [0, 2, 4]
           (.seq
            (.block 1
             (.seq
              (.draw [0, 0, 3, 7, 15, 0, 0, 96, 224, 511, 1023, 2047, 2047, 8191, 16383, 32767, 2047, 2047, 198655, 460799, 1048575, 2097151, 4194303, 8388607, 8388607, 33554431, 67108863, 134217727, 8388607, 276824063, 813694975, 1887436799, 4294967295, 8589934591, 17179869183, 34359738367, 34359738367, 137438953471, 274877906943, 549755813887, 34359738367, 1133871366143, 3332894621695, 7730941132799, 17592186044415, 35184372088831] [[0], [4], [15, 16], [17], [18], [], [4], [20, 21], [22], [19, 23], [24], [0], [4], [26, 27], [28], [29], [], [4], [31, 32], [33], [30, 34], [25, 35], [36], [0], [4], [38, 39], [40], [41], [0], [43], [44], [45], [42, 46], [37, 47], [48], [0], [4], [50, 51], [52], [53], [0], [55], [56], [57], [54, 58], [49, 59]] [⟨some 15, none, .mv (.t 0)⟩,
                ⟨some 16, none, .mv (.t 4)⟩,
                ⟨some 17, none, .idxS 5 (.t 15) (.t 16)⟩,
                ⟨some 18, none, .fldA 3 (.t 17)⟩,
                ⟨some 19, none, .load false 1 (.t 18)⟩,
                ⟨some 20, none, .call 161 []⟩,
                ⟨some 21, none, .mv (.t 4)⟩,
                ⟨some 22, none, .idxS 1 (.t 20) (.t 21)⟩,
                ⟨some 23, none, .load false 1 (.t 22)⟩,
                ⟨some 24, none, .bst .neq (.t 19) (.t 23)⟩,
                ⟨some 25, none, .mv (.t 24)⟩,
                ⟨some 26, some (25, false), .mv (.t 0)⟩,
                ⟨some 27, some (25, false), .mv (.t 4)⟩,
                ⟨some 28, some (25, false), .idxS 5 (.t 26) (.t 27)⟩,
                ⟨some 29, some (25, false), .fldA 2 (.t 28)⟩,
                ⟨some 30, some (25, false), .load false 1 (.t 29)⟩,
                ⟨some 31, some (25, false), .call 160 []⟩,
                ⟨some 32, some (25, false), .mv (.t 4)⟩,
                ⟨some 33, some (25, false), .idxS 1 (.t 31) (.t 32)⟩,
                ⟨some 34, some (25, false), .load false 1 (.t 33)⟩,
                ⟨some 35, some (25, false), .bin .neq (.t 30) (.t 34)⟩,
                ⟨some 36, none, .pick (.t 25) (.k (.bool true)) (.t 35)⟩,
                ⟨some 37, none, .mv (.t 36)⟩,
                ⟨some 38, some (37, false), .mv (.t 0)⟩,
                ⟨some 39, some (37, false), .mv (.t 4)⟩,
                ⟨some 40, some (37, false), .idxS 5 (.t 38) (.t 39)⟩,
                ⟨some 41, some (37, false), .fldA 0 (.t 40)⟩,
                ⟨some 42, some (37, false), .load false 1 (.t 41)⟩,
                ⟨some 43, some (37, false), .mv (.t 0)⟩,
                ⟨some 44, some (37, false), .idxS 5 (.t 43) (.k (.int .i64 0))⟩,
                ⟨some 45, some (37, false), .fldA 0 (.t 44)⟩,
                ⟨some 46, some (37, false), .load false 1 (.t 45)⟩,
                ⟨some 47, some (37, false), .bin .neq (.t 42) (.t 46)⟩,
                ⟨some 48, none, .pick (.t 37) (.k (.bool true)) (.t 47)⟩,
                ⟨some 49, none, .mv (.t 48)⟩,
                ⟨some 50, some (49, false), .mv (.t 0)⟩,
                ⟨some 51, some (49, false), .mv (.t 4)⟩,
                ⟨some 52, some (49, false), .idxS 5 (.t 50) (.t 51)⟩,
                ⟨some 53, some (49, false), .fldA 1 (.t 52)⟩,
                ⟨some 54, some (49, false), .load false 1 (.t 53)⟩,
                ⟨some 55, some (49, false), .mv (.t 0)⟩,
                ⟨some 56, some (49, false), .idxS 5 (.t 55) (.k (.int .i64 0))⟩,
                ⟨some 57, some (49, false), .fldA 1 (.t 56)⟩,
                ⟨some 58, some (49, false), .load false 1 (.t 57)⟩,
                ⟨some 59, some (49, false), .bin .neq (.t 54) (.t 58)⟩,
                ⟨some 60, none, .pick (.t 49) (.k (.bool true)) (.t 59)⟩])
              (.keep [0, 2, 4, 60]
               (.cond (.t 60)
                (.seq
                 (.ops [⟨some 61, none, .build [.int .i64 0, .int .i64 0, .nils, .nils, .nils, .nils, .nils, .nils] []⟩,
                   ⟨none, none, .store 8 (.t 2) (.t 61)⟩,
                   ⟨some 3, none, .mv (.k (.int .i64 5))⟩])
                 .ret)
                .skip))))
            (.keep [0, 2, 4]
             (.ops [⟨some 13, none, .mv (.t 4)⟩,
               ⟨some 14, none, .bin .add (.t 13) (.k (.int .i64 1))⟩,
               ⟨some 4, none, .mv (.t 14)⟩])))))))))
     (.keep [0, 2]
      (.seq
       (.seq
        (.ops [⟨some 5, none, .mv (.k (.int .i64 0))⟩])
        (.keep [0, 2, 5]
         (.block 2
          (.loop
           (.seq
            (.seq
             (.ops [⟨some 62, none, .mv (.t 5)⟩,
               ⟨some 63, none, .bin .lss (.t 62) (.k (.int .i64 6))⟩])
             (.cond (.t 63)
              .skip
              (.exit 2)))
            (.keep [0, 2, 5]
             (.seq
              (.block 3
               (.seq
                (.ops [⟨some 66, none, .mv (.t 0)⟩,
                  ⟨some 67, none, .mv (.t 5)⟩,
                  ⟨some 68, none, .idxS 5 (.t 66) (.t 67)⟩,
                  ⟨some 69, none, .load true 5 (.t 68)⟩,
                  ⟨some 70, none, .call 162 [.t 69]⟩,
                  ⟨some 6, none, .mv (.t 70)⟩])
                (.keep [0, 2, 5, 6]
                 (.seq
                  (.ops [⟨some 71, none, .mv (.t 6)⟩,
                    ⟨some 72, none, .bin .neq (.t 71) (.k (.int .i64 0))⟩])
                  (.cond (.t 72)
                   (.seq
                    (.ops [⟨some 73, none, .build [.int .i64 0, .int .i64 0, .nils, .nils, .nils, .nils, .nils, .nils] []⟩,
                      ⟨some 74, none, .mv (.t 6)⟩,
                      ⟨none, none, .store 8 (.t 2) (.t 73)⟩,
                      ⟨some 3, none, .mv (.t 74)⟩])
                    .ret)
                   .skip)))))
              (.keep [0, 2, 5]
               (.ops [⟨some 64, none, .mv (.t 5)⟩,
                 ⟨some 65, none, .bin .add (.t 64) (.k (.int .i64 1))⟩,
                 ⟨some 5, none, .mv (.t 65)⟩])))))))))
       (.keep [0, 2]
        (.seq
         (.draw [0, 1, 3, 7, 0, 16, 48, 112, 0, 256, 768, 1792, 3840, 0, 8192, 24576, 57344, 0, 131072, 393216, 917504, 0, 2097152, 6291456, 14680064, 31465216, 0, 67108864, 201326592, 469762048, 0, 1073741824, 3221225472, 7516192768, 17179869183, 34359738367, 68719476735] [[0], [75], [76], [77], [0], [79], [80], [81], [0], [83], [84], [85], [86], [0], [88], [89], [90], [0], [92], [93], [94], [0], [96], [97], [98], [99], [0], [101], [102], [103], [0], [105], [106], [107], [78, 82, 87, 91, 95, 100, 104, 108], [2, 109], []] [⟨some 75, none, .mv (.t 0)⟩,
           ⟨some 76, none, .idxS 5 (.t 75) (.k (.int .i64 0))⟩,
           ⟨some 77, none, .fldA 0 (.t 76)⟩,
           ⟨some 78, none, .load false 1 (.t 77)⟩,
           ⟨some 79, none, .mv (.t 0)⟩,
           ⟨some 80, none, .idxS 5 (.t 79) (.k (.int .i64 0))⟩,
           ⟨some 81, none, .fldA 1 (.t 80)⟩,
           ⟨some 82, none, .load false 1 (.t 81)⟩,
           ⟨some 83, none, .mv (.t 0)⟩,
           ⟨some 84, none, .idxS 5 (.t 83) (.k (.int .i64 0))⟩,
           ⟨some 85, none, .fldA 4 (.t 84)⟩,
           ⟨some 86, none, .load false 1 (.t 85)⟩,
           ⟨some 87, none, .call 385 [.t 86]⟩,
           ⟨some 88, none, .mv (.t 0)⟩,
           ⟨some 89, none, .idxS 5 (.t 88) (.k (.int .i64 1))⟩,
           ⟨some 90, none, .fldA 4 (.t 89)⟩,
           ⟨some 91, none, .load false 1 (.t 90)⟩,
           ⟨some 92, none, .mv (.t 0)⟩,
           ⟨some 93, none, .idxS 5 (.t 92) (.k (.int .i64 2))⟩,
           ⟨some 94, none, .fldA 4 (.t 93)⟩,
           ⟨some 95, none, .load false 1 (.t 94)⟩,
           ⟨some 96, none, .mv (.t 0)⟩,
           ⟨some 97, none, .idxS 5 (.t 96) (.k (.int .i64 3))⟩,
           ⟨some 98, none, .fldA 4 (.t 97)⟩,
           ⟨some 99, none, .load false 1 (.t 98)⟩,
           ⟨some 100, none, .call 385 [.t 99]⟩,
           ⟨some 101, none, .mv (.t 0)⟩,
           ⟨some 102, none, .idxS 5 (.t 101) (.k (.int .i64 4))⟩,
           ⟨some 103, none, .fldA 4 (.t 102)⟩,
           ⟨some 104, none, .load false 1 (.t 103)⟩,
           ⟨some 105, none, .mv (.t 0)⟩,
           ⟨some 106, none, .idxS 5 (.t 105) (.k (.int .i64 5))⟩,
           ⟨some 107, none, .fldA 4 (.t 106)⟩,
           ⟨some 108, none, .load false 1 (.t 107)⟩,
           ⟨some 109, none, .build [.int .i64 0, .int .i64 0, .nils, .nils, .nils, .nils, .nils, .nils] [(0, 1, .t 78), (1, 1, .t 82), (2, 1, .t 87), (3, 1, .t 91), (4, 1, .t 95), (5, 1, .t 100), (6, 1, .t 104), (7, 1, .t 108)]⟩,
           ⟨none, none, .store 8 (.t 2) (.t 109)⟩,
           ⟨some 3, none, .mv (.k (.int .i64 0))⟩])
         (.keep [2, 3]
          .ret))))))))) }
structure N370 (R : Env) : Prop where
  o370 : R.Fn 370 c370
  n160 : N160 R
  n161 : N161 R
  n162 : N162 R
  n385 : N385 R
end Go.UM

namespace Go.UM
open Go.AM
def c135 : IFn := { np := 1, rs := [.cell 2 true 8], body :=
 (.seq
  (.ops [⟨some 1, none, .box 16 (.t 0)⟩,
    ⟨some 2, none, .alloc 16 [.int .i64 0, .int .i64 0, .nils, .nils, .nils, .nils, .nils, .nils]⟩])
  (.seq
   (.draw [0, 1, 0, 4, 12, 28, 63, 0, 128, 0, 512, 1536, 3584, 8064, 2047, 18431, 65535, 131071] [[1], [3], [1], [5], [6], [7], [4, 8], [1], [10], [1], [12], [13], [14], [11, 15], [1], [17, 9], [1], [18, 16]] [⟨some 3, none, .fldA 2 (.t 1)⟩,
     ⟨some 4, none, .load false 1 (.t 3)⟩,
     ⟨some 5, none, .fldA 2 (.t 1)⟩,
     ⟨some 6, none, .load false 1 (.t 5)⟩,
     ⟨some 7, none, .lenS (.t 6)⟩,
     ⟨some 8, none, .mm false [.t 7, .k (.int .i64 20)]⟩,
     ⟨some 9, none, .slcS 13 3 (.t 4) none (some (.t 8)) none⟩,
     ⟨some 10, none, .fldA 5 (.t 1)⟩,
     ⟨some 11, none, .load false 1 (.t 10)⟩,
     ⟨some 12, none, .fldA 5 (.t 1)⟩,
     ⟨some 13, none, .load false 1 (.t 12)⟩,
     ⟨some 14, none, .lenS (.t 13)⟩,
     ⟨some 15, none, .mm false [.t 14, .k (.int .i64 20)]⟩,
     ⟨some 16, none, .slcS 13 3 (.t 11) none (some (.t 15)) none⟩,
     ⟨some 17, none, .fldA 2 (.t 1)⟩,
     ⟨none, none, .store 1 (.t 17) (.t 9)⟩,
     ⟨some 18, none, .fldA 5 (.t 1)⟩,
     ⟨none, none, .store 1 (.t 18) (.t 16)⟩])
   (.keep [1, 2]
    (.seq
     (.draw [0, 1, 0, 4, 12, 28, 63, 0, 128, 0, 512, 1536, 3584, 8064, 2047, 18431, 65535, 131071] [[1], [19], [1], [21], [22], [23], [20, 24], [1], [26], [1], [28], [29], [30], [27, 31], [1], [33, 25], [1], [34, 32]] [⟨some 19, none, .fldA 3 (.t 1)⟩,
       ⟨some 20, none, .load false 1 (.t 19)⟩,
       ⟨some 21, none, .fldA 3 (.t 1)⟩,
       ⟨some 22, none, .load false 1 (.t 21)⟩,
       ⟨some 23, none, .lenS (.t 22)⟩,
       ⟨some 24, none, .mm false [.t 23, .k (.int .i64 20)]⟩,
       ⟨some 25, none, .slcS 10 1 (.t 20) none (some (.t 24)) none⟩,
       ⟨some 26, none, .fldA 4 (.t 1)⟩,
       ⟨some 27, none, .load false 1 (.t 26)⟩,
       ⟨some 28, none, .fldA 4 (.t 1)⟩,
       ⟨some 29, none, .load false 1 (.t 28)⟩,
       ⟨some 30, none, .lenS (.t 29)⟩,
       ⟨some 31, none, .mm false [.t 30, .k (.int .i64 20)]⟩,
       ⟨some 32, none, .slcS 10 1 (.t 27) none (some (.t 31)) none⟩,
       ⟨some 33, none, .fldA 3 (.t 1)⟩,
       ⟨none, none, .store 1 (.t 33) (.t 25)⟩,
       ⟨some 34, none, .fldA 4 (.t 1)⟩,
       ⟨none, none, .store 1 (.t 34) (.t 32)⟩])
     (.keep [1, 2]
      (.seq
       (.draw [0, 1, 0, 4, 12, 28, 63, 0, 128, 0, 512, 1536, 3584, 8064, 2047, 18431, 65535, 131071] [[1], [35], [1], [37], [38], [39], [36, 40], [1], [42], [1], [44], [45], [46], [43, 47], [1], [49, 41], [1], [50, 48]] [⟨some 35, none, .fldA 6 (.t 1)⟩,
         ⟨some 36, none, .load false 1 (.t 35)⟩,
         ⟨some 37, none, .fldA 6 (.t 1)⟩,
         ⟨some 38, none, .load false 1 (.t 37)⟩,
         ⟨some 39, none, .lenS (.t 38)⟩,
         ⟨some 40, none, .mm false [.t 39, .k (.int .i64 20)]⟩,
         ⟨some 41, none, .slcS 10 1 (.t 36) none (some (.t 40)) none⟩,
         ⟨some 42, none, .fldA 7 (.t 1)⟩,
         ⟨some 43, none, .load false 1 (.t 42)⟩,
         ⟨some 44, none, .fldA 7 (.t 1)⟩,
         ⟨some 45, none, .load false 1 (.t 44)⟩,
         ⟨some 46, none, .lenS (.t 45)⟩,
         ⟨some 47, none, .mm false [.t 46, .k (.int .i64 20)]⟩,
         ⟨some 48, none, .slcS 10 1 (.t 43) none (some (.t 47)) none⟩,
         ⟨some 49, none, .fldA 6 (.t 1)⟩,
         ⟨none, none, .store 1 (.t 49) (.t 41)⟩,
         ⟨some 50, none, .fldA 7 (.t 1)⟩,
         ⟨none, none, .store 1 (.t 50) (.t 48)⟩])
       (.keep [1, 2]
        (.seq
         (.ops [⟨some 51, none, .load true 8 (.t 1)⟩,
           ⟨none, none, .store 8 (.t 2) (.t 51)⟩])
         .ret)))))))) }
structure N135 (R : Env) : Prop where
  o135 : R.Fn 135 c135
def c364 : IFn := { np := 1, rs := [.cell 2 true 5], body :=
 (.seq
  (.ops [⟨some 1, none, .box 20 (.t 0)⟩,
    ⟨some 2, none, .alloc 20 [.int .i64 0, .int .i64 0, .int .i64 0, .str [], .nils]⟩])
  (.seq
   (.draw [0, 1, 0, 4, 12, 28, 63, 0, 128, 0, 512, 1536, 3584, 8064, 2047, 18431, 65535, 131071] [[1], [3], [1], [5], [6], [7], [4, 8], [1], [10], [1], [12], [13], [14], [11, 15], [1], [17, 9], [1], [18, 16]] [⟨some 3, none, .fldA 4 (.t 1)⟩,
     ⟨some 4, none, .load false 1 (.t 3)⟩,
     ⟨some 5, none, .fldA 4 (.t 1)⟩,
     ⟨some 6, none, .load false 1 (.t 5)⟩,
     ⟨some 7, none, .lenS (.t 6)⟩,
     ⟨some 8, none, .mm false [.t 7, .k (.int .i64 100)]⟩,
     ⟨some 9, none, .slcS 10 1 (.t 4) none (some (.t 8)) none⟩,
     ⟨some 10, none, .fldA 3 (.t 1)⟩,
     ⟨some 11, none, .load false 1 (.t 10)⟩,
     ⟨some 12, none, .fldA 3 (.t 1)⟩,
     ⟨some 13, none, .load false 1 (.t 12)⟩,
     ⟨some 14, none, .lenT (.t 13)⟩,
     ⟨some 15, none, .mm false [.t 14, .k (.int .i64 20)]⟩,
     ⟨some 16, none, .slcT (.t 11) none (some (.t 15))⟩,
     ⟨some 17, none, .fldA 4 (.t 1)⟩,
     ⟨none, none, .store 1 (.t 17) (.t 9)⟩,
     ⟨some 18, none, .fldA 3 (.t 1)⟩,
     ⟨none, none, .store 1 (.t 18) (.t 16)⟩])
   (.keep [1, 2]
    (.seq
     (.ops [⟨some 19, none, .load true 5 (.t 1)⟩,
       ⟨none, none, .store 5 (.t 2) (.t 19)⟩])
     .ret)))) }
structure N364 (R : Env) : Prop where
  o364 : R.Fn 364 c364
def c367 : IFn := { np := 0, rs := [.t 0], body :=
 (.seq
  (.ops [⟨some 0, none, .mv (.k (.bool false))⟩])
  (.seq
   (.ops [⟨some 4, none, .bslice 10 1 1 [.int .i64 0] [(0, .k (.int .i64 258))]⟩,
     ⟨some 5, none, .build [.int .i64 0, .int .i64 0, .int .i64 0, .str [], .nils] [(0, 1, .k (.int .i64 1)), (1, 1, .k (.int .i64 1)), (2, 1, .k (.int .i64 1)), (3, 1, .k (.str [65])), (4, 1, .t 4)]⟩,
     ⟨some 6, none, .call 365 [.t 5]⟩,
     ⟨some 3, none, .mv (.t 6)⟩,
     ⟨some 7, none, .ext (.t 3) 0⟩,
     ⟨some 8, none, .ext (.t 3) 1⟩,
     ⟨some 1, none, .mv (.t 7)⟩,
     ⟨some 2, none, .mv (.t 8)⟩])
   (.keep [1, 2]
    (.seq
     (.ops [⟨some 9, none, .mv (.t 2)⟩,
       ⟨some 10, none, .bin .eql (.t 9) (.k (.int .i64 0))⟩,
       ⟨some 11, none, .mv (.t 10)⟩,
       ⟨some 12, some (11, true), .mv (.t 1)⟩,
       ⟨some 13, some (11, true), .b2s (.t 12)⟩,
       ⟨some 14, some (11, true), .bst .eql (.t 13) (.k (.str [80, 55, 10, 87, 73, 68, 84, 72, 32, 49, 10, 72, 69, 73, 71, 72, 84, 32, 49, 10, 68, 69, 80, 84, 72, 32, 49, 10, 77, 65, 88, 86, 65, 76, 32, 54, 53, 53, 51, 53, 10, 84, 85, 80, 76, 84, 89, 80, 69, 32, 65, 10, 69, 78, 68, 72, 68, 82, 10, 1, 2]))⟩,
       ⟨some 15, none, .pick (.t 11) (.t 14) (.k (.bool false))⟩,
       ⟨some 0, none, .mv (.t 15)⟩])
     (.keep [0]
      .ret))))) }
structure N367 (R : Env) : Prop where
  o367 : R.Fn 367 c367
  n365 : N365 R
def c368 : IFn := { np := 2, rs := [.t 4], body :=
 (.seq
  (.ops [⟨some 2, none, .box 16 (.t 0)⟩,
    ⟨some 4, none, .mv (.k (.bool false))⟩])
  (.seq
   (.ops [⟨some 16, none, .load true 8 (.t 2)⟩,
     ⟨some 17, none, .call 135 [.t 16]⟩,
     ⟨none, none, .store 8 (.t 2) (.t 17)⟩])
   (.seq
    (.ops [⟨some 5, none, .mv (.k (.nils))⟩])
    (.seq
     (.seq
      (.ops [⟨some 6, none, .mv (.k (.int .i64 0))⟩])
      (.keep [1, 2, 5, 6]
       (.block 0
        (.loop
         (.seq
          (.seq
           (.ops [⟨some 18, none, .mv (.t 6)⟩,
             ⟨some 19, none, .mv (.t 1)⟩,
             ⟨some 20, none, .lenS (.t 19)⟩,
             ⟨some 21, none, .bin .lss (.t 18) (.t 20)⟩,
             ⟨some 22, none, .mv (.t 21)⟩,
             ⟨some 23, some (22, true), .mv (.t 6)⟩,
             ⟨some 24, some (22, true), .bin .lss (.t 23) (.k (.int .i64 8))⟩,
             ⟨some 25, none, .pick (.t 22) (.t 24) (.k (.bool false))⟩])
           (.keep [1, 2, 5, 6, 25]
            (.cond (.t 25)
             .skip
             (.exit 0))))
          (.keep [1, 2, 5, 6]
           (.seq
            (.block 1
             (.ops [⟨some 28, none, .mv (.t 5)⟩,
               ⟨some 29, none, .mv (.t 1)⟩,
               ⟨some 30, none, .mv (.t 6)⟩,
               ⟨some 31, none, .idxS 5 (.t 29) (.t 30)⟩,
               ⟨some 32, none, .load true 5 (.t 31)⟩,
               ⟨some 33, none, .call 364 [.t 32]⟩,
               ⟨some 34, none, .bslice 20 5 1 [.int .i64 0, .int .i64 0, .int .i64 0, .str [], .nils] [(0, .t 33)]⟩,
               ⟨some 35, none, .app 20 5 (.t 28) (.t 34)⟩,
               ⟨some 5, none, .mv (.t 35)⟩]))
            (.keep [1, 2, 5, 6]
             (.ops [⟨some 26, none, .mv (.t 6)⟩,
               ⟨some 27, none, .bin .add (.t 26) (.k (.int .i64 1))⟩,
               ⟨some 6, none, .mv (.t 27)⟩])))))))))
     (.keep [2, 5]
      (.seq
       (.ops [⟨some 37, none, .load true 8 (.t 2)⟩,
         ⟨some 38, none, .call 132 [.t 37]⟩,
         ⟨some 36, none, .mv (.t 38)⟩,
         ⟨some 39, none, .ext (.t 36) 0⟩,
         ⟨some 40, none, .ext (.t 36) 1⟩,
         ⟨some 7, none, .mv (.t 39)⟩,
         ⟨some 8, none, .mv (.t 40)⟩])
       (.keep [2, 5, 7, 8]
        (.seq
         (.ops [⟨some 42, none, .load true 8 (.t 2)⟩,
           ⟨some 43, none, .call 155 [.t 42]⟩,
           ⟨some 41, none, .mv (.t 43)⟩,
           ⟨some 44, none, .ext (.t 41) 0⟩,
           ⟨some 45, none, .ext (.t 41) 1⟩,
           ⟨some 9, none, .mv (.t 44)⟩,
           ⟨some 10, none, .mv (.t 45)⟩])
         (.keep [5, 7, 8, 9, 10]
          (.seq
           (.seq
            (.ops [⟨some 46, none, .mv (.t 7)⟩,
              ⟨some 47, none, .lenS (.t 46)⟩,
              ⟨some 48, none, .mv (.t 9)⟩,
              ⟨some 49, none, .lenS (.t 48)⟩,
              ⟨some 50, none, .bin .neq (.t 47) (.t 49)⟩,
              ⟨some 51, none, .mv (.t 50)⟩,
              ⟨some 52, some (51, false), .mv (.t 8)⟩,
              ⟨some 53, some (51, false), .mv (.t 10)⟩,
              ⟨some 54, some (51, false), .bin .neq (.t 52) (.t 53)⟩,
              ⟨some 55, none, .pick (.t 51) (.k (.bool true)) (.t 54)⟩])
            (.keep [5, 7, 9, 55]
             (.cond (.t 55)
              (.seq
               (.ops [⟨some 4, none, .mv (.k (.bool false))⟩])
               .ret)
              .skip)))
           (.keep [5, 7, 9]
            (.seq
             (.seq
              (.ops [⟨some 56, none, .mv (.t 7)⟩,
                ⟨some 57, none, .lenS (.t 56)⟩,
                ⟨some 58, none, .mv (.k (.int .i64 0))⟩])
              (.keep [5, 7, 9, 57, 58]
               (.block 2
                (.loop
                 (.seq
                  (.ops [⟨some 59, none, .bin .lss (.t 58) (.t 57)⟩])
                  (.seq
                   (.cond (.t 59)
                    .skip
                    (.exit 2))
                   (.keep [5, 7, 9, 57, 58]
                    (.seq
                     (.block 3
                      (.seq
                       (.ops [⟨some 60, none, .mv (.t 58)⟩,
                         ⟨some 11, none, .mv (.t 60)⟩])
                       (.seq
                        (.draw [0, 0, 3, 7, 0, 0, 48, 112, 255, 511] [[7], [11], [61, 62], [63], [9], [11], [65, 66], [67], [64, 68], [69]] [⟨some 61, none, .mv (.t 7)⟩,
                          ⟨some 62, none, .mv (.t 11)⟩,
                          ⟨some 63, none, .idxS 5 (.t 61) (.t 62)⟩,
                          ⟨some 64, none, .load true 5 (.t 63)⟩,
                          ⟨some 65, none, .mv (.t 9)⟩,
                          ⟨some 66, none, .mv (.t 11)⟩,
                          ⟨some 67, none, .idxS 5 (.t 65) (.t 66)⟩,
                          ⟨some 68, none, .load true 5 (.t 67)⟩,
                          ⟨some 69, none, .call 175 [.t 64, .t 68]⟩,
                          ⟨some 70, none, .un .not (.t 69)⟩])
                        (.keep [5, 7, 9, 57, 58, 70]
                         (.cond (.t 70)
                          (.seq
                           (.ops [⟨some 4, none, .mv (.k (.bool false))⟩])
                           .ret)
                          .skip)))))
                     (.keep [5, 7, 9, 57, 58]
                      (.ops [⟨some 71, none, .bin .add (.t 58) (.k (.int .i64 1))⟩,
                        ⟨some 58, none, .mv (.t 71)⟩]))))))))))
             (.keep [5]
              (.seq
               (.ops [⟨some 73, none, .mv (.t 5)⟩,
                 ⟨some 74, none, .call 369 [.t 73]⟩,
                 ⟨some 72, none, .mv (.t 74)⟩,
                 ⟨some 75, none, .ext (.t 72) 0⟩,
                 ⟨some 76, none, .ext (.t 72) 1⟩,
                 ⟨some 12, none, .alloc 16 [.int .i64 0, .int .i64 0, .nils, .nils, .nils, .nils, .nils, .nils]⟩,
                 ⟨none, none, .store 8 (.t 12) (.t 75)⟩,
                 ⟨some 13, none, .mv (.t 76)⟩])
               (.keep [5, 12, 13]
                (.seq
                 (.ops [⟨some 78, none, .mv (.t 5)⟩,
                   ⟨some 79, none, .call 370 [.t 78]⟩,
                   ⟨some 77, none, .mv (.t 79)⟩,
                   ⟨some 80, none, .ext (.t 77) 0⟩,
                   ⟨some 81, none, .ext (.t 77) 1⟩,
                   ⟨some 14, none, .alloc 16 [.int .i64 0, .int .i64 0, .nils, .nils, .nils, .nils, .nils, .nils]⟩,
                   ⟨none, none, .store 8 (.t 14) (.t 80)⟩,
                   ⟨some 15, none, .mv (.t 81)⟩])
                 (.keep [12, 13, 14, 15]
                  (.seq
                   (.ops [⟨some 82, none, .load true 8 (.t 12)⟩,
                     ⟨some 83, none, .load true 8 (.t 14)⟩,
                     ⟨some 84, none, .call 117 [.t 82, .t 83]⟩,
                     ⟨some 85, none, .mv (.t 84)⟩,
                     ⟨some 86, some (85, true), .mv (.t 13)⟩,
                     ⟨some 87, some (85, true), .mv (.t 15)⟩,
                     ⟨some 88, some (85, true), .bin .eql (.t 86) (.t 87)⟩,
                     ⟨some 89, none, .pick (.t 85) (.t 88) (.k (.bool false))⟩,
                     ⟨some 90, none, .mv (.t 89)⟩,
                     ⟨some 91, some (90, true), .call 367 []⟩,
                     ⟨some 92, none, .pick (.t 90) (.t 91) (.k (.bool false))⟩,
                     ⟨some 4, none, .mv (.t 92)⟩])
                   (.keep [4]
                    .ret))))))))))))))))))) }
structure N368 (R : Env) : Prop where
  o368 : R.Fn 368 c368
  n117 : N117 R
  n132 : N132 R
  n135 : N135 R
  n155 : N155 R
  n175 : N175 R
  n364 : N364 R
  n367 : N367 R
  n369 : N369 R
  n370 : N370 R
end Go.UM

namespace Go.UM
open Go.AM
set_option pp.maxSteps 700
structure Mf where
  (id kind label m0 m1 m2 m3 m4 m5 m6 m7 first last size chunks : Int)
def Mf.row (m : Mf) : List AV := [.int .u64 m.id, .int .i64 m.kind, .int .u32 m.label, .int .u8 m.m0, .int .u8 m.m1, .int .u8 m.m2, .int .u8 m.m3, .int .u8 m.m4, .int .u8 m.m5, .int .u8 m.m6, .int .u8 m.m7,
  .int .u32 m.first, .int .u32 m.last, .int .i64 m.size, .int .i64 m.chunks]
def Mf.mask (m : Mf) : Nat → Int
  | 0 => m.m0 | 1 => m.m1 | 2 => m.m2 | 3 => m.m3 | 4 => m.m4 | 5 => m.m5 | 6 => m.m6 | 7 => m.m7 | _ => 0
structure Mf.Ok (m : Mf) : Prop where
  id : inI .u64 m.id
  kind : inI .i64 m.kind
  label : inI .u32 m.label
  mask : ∀ i, 0 ≤ m.mask i ∧ m.mask i ≤ 255
  first : inI .u32 m.first
  last : inI .u32 m.last
  size : inI .i64 m.size
  chunks : inI .i64 m.chunks
end Go.UM

namespace Go.UM
open Go.AM
set_option pp.maxSteps 700
def u8 (n : Int) : UInt8 := UInt8.ofNat (n % 256).toNat
theorem wr_u8 (n : Int) : wr .u8 n = ((u8 n).toNat : Int) := by
  have h1 : 0 ≤ n % 256 := Int.emod_nonneg _ (by decide)
  have h2 : n % 256 < 256 := Int.emod_lt_of_pos _ (by decide)
  simp only [wr, IntKind.wrap, IntKind.bits, IntKind.signed, u8]
  simp
  omega
def slc8 (l : List UInt8) : List (List AV) := l.map fun c => [.int .u8 c.toNat]
def slcK (k : IntKind) (l : List Int) : List (List AV) := l.map fun x => [.int k x]
@[simp] theorem slc8_nil : slc8 [] = [] := rfl
@[simp] theorem slc8_length (l : List UInt8) : (slc8 l).length = l.length := by simp [slc8]
@[simp] theorem slc8_append (a b : List UInt8) : slc8 (a ++ b) = slc8 a ++ slc8 b := by simp [slc8]
@[simp] theorem slc8_one (n : Int) : [[AV.int .u8 (wr .u8 n)]] = slc8 [u8 n] := by simp [slc8, wr_u8]
@[simp] theorem slcK_nil (k : IntKind) : slcK k [] = [] := rfl
@[simp] theorem slcK_length (k : IntKind) (l : List Int) : (slcK k l).length = l.length := by simp [slcK]
@[simp] theorem slcK_append (k : IntKind) (a b : List Int) : slcK k (a ++ b) = slcK k a ++ slcK k b := by simp [slcK]
@[simp] theorem slc8_NmL (l : List UInt8) : NmL (slc8 l) := by simp [slc8]
@[simp] theorem slcK_NmL (k : IntKind) (l : List Int) : NmL (slcK k l) := by simp [slcK]
@[simp] theorem slc8_FlL (l : List UInt8) : FlL (slc8 l) := by simp [slc8]
@[simp] theorem slcK_FlL (k : IntKind) (l : List Int) : FlL (slcK k l) := by simp [slcK]
instance {l : List UInt8} : LenOf (slc8 l) l.length := ⟨slc8_length l⟩
instance {k : IntKind} {l : List Int} : LenOf (slcK k l) l.length := ⟨slcK_length k l⟩
@[simp] theorem mem_slc8 {e : List AV} {l : List UInt8} : e ∈ slc8 l ↔ ∃ c, c ∈ l ∧ [AV.int .u8 c.toNat] = e := by simp [slc8]
@[simp] theorem mem_slcK {k : IntKind} {e : List AV} {l : List Int} : e ∈ slcK k l ↔ ∃ c, c ∈ l ∧ [AV.int k c] = e := by simp [slcK]
theorem slc8_take (l : List UInt8) (k : Nat) : (slc8 l).take k = slc8 (l.take k) := by simp [slc8, List.map_take]
theorem slc8_drop (l : List UInt8) (k : Nat) : (slc8 l).drop k = slc8 (l.drop k) := by simp [slc8, List.map_drop]
theorem slcK_take (k' : IntKind) (l : List Int) (k : Nat) : (slcK k' l).take k = slcK k' (l.take k) := by simp [slcK, List.map_take]
theorem slcK_drop (k' : IntKind) (l : List Int) (k : Nat) : (slcK k' l).drop k = slcK k' (l.drop k) := by simp [slcK, List.map_drop]
theorem take_succ_get {α : Type} {l : List α} {k : Nat} {x : α} (h : l[k]? = some x) : l.take (k + 1) = l.take k ++ [x] := by
  rw [List.take_add_one, h]; rfl
theorem shr_eq {k : IntKind} {x y : Int} (hx : 0 ≤ x) : shrI k x y = x / 2 ^ (min y.toNat k.bits) := by
  unfold shrI
  rw [Int.fdiv_eq_ediv_of_nonneg]
  exact Int.le_of_lt (Int.pow_pos (by decide))
theorem aS8 {s : List UInt8} {K : List UInt8 → Prop} (k : K s) : AStr (slc8 s) K := ⟨⟨s, rfl, k⟩⟩
theorem take_cap {α : Type} (l : List α) (m : Int) : l.take (min (l.length : Int) m).toNat = l.take m.toNat := by
  by_cases h : (l.length : Int) ≤ m
  · rw [show (min (l.length : Int) m).toNat = l.length by omega, List.take_of_length_le (Nat.le_refl _), List.take_of_length_le (by omega)]
  · rw [show (min (l.length : Int) m).toNat = m.toNat by omega]
theorem capK (k : IntKind) (b : List Int) (m : Int) : (slcK k b).take (min (b.length : Int) m).toNat = slcK k (b.take m.toNat) := by rw [slcK_take, take_cap]
instance {l : List UInt8} {k : Nat} : TkOf ((slc8 l).take k) (slc8 (l.take k)) := ⟨slc8_take l k⟩
instance {l : List UInt8} {k : Nat} : TkOf ((slc8 l).drop k) (slc8 (l.drop k)) := ⟨slc8_drop l k⟩
instance {l : List UInt8} {k j : Nat} : TkOf (((slc8 l).take k).drop j) (slc8 ((l.take k).drop j)) := ⟨by rw [slc8_take, slc8_drop]⟩
instance {kk : IntKind} {l : List Int} {k : Nat} : TkOf ((slcK kk l).take k) (slcK kk (l.take k)) := ⟨slcK_take kk l k⟩
instance {kk : IntKind} {l : List Int} {k : Nat} : TkOf ((slcK kk l).drop k) (slcK kk (l.drop k)) := ⟨slcK_drop kk l k⟩
instance {kk : IntKind} {l : List Int} {k j : Nat} : TkOf (((slcK kk l).take k).drop j) (slcK kk ((l.take k).drop j)) := ⟨by rw [slcK_take, slcK_drop]⟩
end Go.UM

namespace Go.UM
open Go.AM
set_option pp.maxSteps 700
set_option maxRecDepth 4000
structure Pl where
  (w h deep : Int)
  name : List UInt8
  data : List Int
def Pl.row (p : Pl) : List AV := [.int .i64 p.w, .int .i64 p.h, .int .i64 p.deep, .str p.name, .isl 1 (slcK .i64 p.data)]
theorem between_c {R : Env} (h : N157 R) (x a b : Int) : R.Pc 157 [.int .i64 x, .int .i64 a, .int .i64 b] (.bool (decide (a ≤ x) && decide (x ≤ b))) :=
  h.o157.enter 60 rfl fun X bb hfit hp => by
    refine sh ?_
    refine cS (fun h1 => ?_) (fun h1 => ?_)
    · refine sh ?_
      refine rT ?_
      all_goals repeat' (first | exact True.intro | refine And.intro ?_ ?_ | (intro _u; clear _u) | (with_reducible first | refine eM ?_ ?_ | refine eF ?_ ?_ ?_ | refine eN ?_ | refine eL ?_ ?_ ?_ | refine eA ?_ ?_ | refine IWk.mk ⟨_, hp, rfl⟩ ?_ ?_) | refine IWk.mk ⟨_, hp, rfl⟩ ?_ ?_)
      all_goals first | with_reducible rfl | omega | exact Or.inl (by decide) | (simp; done) | rfl | skip
      simp [h1]
    · refine sh ?_
      refine rT ?_
      all_goals repeat' (first | exact True.intro | refine And.intro ?_ ?_ | (intro _u; clear _u) | (with_reducible first | refine eM ?_ ?_ | refine eF ?_ ?_ ?_ | refine eN ?_ | refine eL ?_ ?_ ?_ | refine eA ?_ ?_ | refine IWk.mk ⟨_, hp, rfl⟩ ?_ ?_) | refine IWk.mk ⟨_, hp, rfl⟩ ?_ ?_)
      all_goals first | with_reducible rfl | omega | exact Or.inl (by decide) | (simp; done) | rfl | skip
      simp; omega
theorem all_bad {α : Type} {l : List α} {k : Nat} {x : α} {p : α → Bool} (h : l[k]? = some x) (hx : p x = false) : l.all p = false := by
  rw [List.all_eq_false]
  exact ⟨x, List.mem_of_getElem? h, by rw [hx]; simp⟩
theorem all_take_succ {α : Type} {l : List α} {k : Nat} {x : α} {p : α → Bool} (h : l[k]? = some x) : (l.take (k + 1)).all p = ((l.take k).all p && p x) := by
  rw [take_succ_get h, List.all_append]; simp
def upper (c : UInt8) : Bool := decide (65 ≤ c.toNat) && decide (c.toNat ≤ 90)
def named (s : List UInt8) : Bool := s.all upper && (decide (1 ≤ (s.length : Int)) && decide ((s.length : Int) ≤ 16))
theorem named_c {R : Env} (h : N158 R) (s : List UInt8) (hs : s.length ≤ 1073741824) : R.Pc 158 [.str s] (.bool (named s)) :=
  h.o158.enter 60 rfl fun X bb hfit hp => by
    refine sh ?_
    refine lPa 60 (fun k : Nat => k ≤ s.length ∧ (s.take k).all upper = true) (fun k => ⟨[(0, .str s), (6, .osl 0 s.length), (7, .int .i64 s.length), (8, .int .i64 k)], [(0, .arr (R.ty 4) 1 (slc8 s))], 1⟩) (fun k => s.length - k) (0) ?_ ?_
    · exact ⟨Nat.zero_le _, by simp⟩
    · intro k hk
      dsimp only
      refine sh ?_
      refine cS (fun h1 => ?_) (fun h1 => ?_)
      · obtain ⟨x, hx⟩ : ∃ u_, s[k]? = some u_ := ⟨_, List.getElem?_eq_getElem (by first | omega | (simp <;> omega))⟩
        refine sh ?_
        refine aelt_map (by simp) hx ?_
        have hx8 := x.toNat_lt
        refine sh ?_
        refine cS (fun h2 => ?_) (fun h2 => ?_)
        · refine sh ?_
          refine rT ?_
          all_goals repeat' (first | exact True.intro | refine And.intro ?_ ?_ | (intro _u; clear _u) | (with_reducible first | refine eM ?_ ?_ | refine eF ?_ ?_ ?_ | refine eN ?_ | refine eL ?_ ?_ ?_ | refine eA ?_ ?_ | refine IWk.mk ⟨_, hp, rfl⟩ ?_ ?_) | refine IWk.mk ⟨_, hp, rfl⟩ ?_ ?_)
          all_goals first | with_reducible rfl | omega | exact Or.inl (by decide) | (simp; done) | rfl | skip
          have hno : upper x = false := by simp [upper]; omega
          simp [named, all_bad hx hno]
        · refine sh ?_
          refine cS (fun h3 => ?_) (fun h3 => ?_)
          · refine sh ?_
            refine rT ?_
            all_goals repeat' (first | exact True.intro | refine And.intro ?_ ?_ | (intro _u; clear _u) | (with_reducible first | refine eM ?_ ?_ | refine eF ?_ ?_ ?_ | refine eN ?_ | refine eL ?_ ?_ ?_ | refine eA ?_ ?_ | refine IWk.mk ⟨_, hp, rfl⟩ ?_ ?_) | refine IWk.mk ⟨_, hp, rfl⟩ ?_ ?_)
            all_goals first | with_reducible rfl | omega | exact Or.inl (by decide) | (simp; done) | rfl | skip
            have hno : upper x = false := by simp [upper]; omega
            simp [named, all_bad hx hno]
          · refine sh ?_
            refine nXa (k + 1) ?_ ?_
            · refine ⟨by omega, ?_⟩
              have hyes : upper x = true := by simp [upper]; omega
              rw [all_take_succ hx, hk.2, hyes]; rfl
            · omega
      · have hk2 := hk.2
        rw [List.take_of_length_le (by omega)] at hk2
        refine sh ?_
        refine ICall.pure h.n157.o157.hb (between_c h.n157 s.length 1 16) rfl ?_
        refine sh ?_
        refine rT ?_
        all_goals repeat' (first | exact True.intro | refine And.intro ?_ ?_ | (intro _u; clear _u) | (with_reducible first | refine eM ?_ ?_ | refine eF ?_ ?_ ?_ | refine eN ?_ | refine eL ?_ ?_ ?_ | refine eA ?_ ?_ | refine IWk.mk ⟨_, hp, rfl⟩ ?_ ?_) | refine IWk.mk ⟨_, hp, rfl⟩ ?_ ?_)
        all_goals first | with_reducible rfl | omega | exact Or.inl (by decide) | (simp; done) | rfl | skip
        simp [named, hk2]
def pchk (p : Pl) : Int :=
  if ¬ (1 ≤ p.w ∧ p.w ≤ 64) ∨ ¬ (1 ≤ p.h ∧ p.h ≤ 64) ∨ ¬ (1 ≤ p.deep ∧ p.deep ≤ 4) then 2
  else if named p.name = false ∨ (p.data.length : Int) ≠ p.w * p.h * p.deep then 5
  else if p.data.all (fun x => decide (0 ≤ x) && decide (x ≤ 65535)) = false then 5 else 0
theorem pcheck_c {R : Env} (h : N153 R) (p : Pl) (hs : p.name.length ≤ 1073741824) : R.Pc 153 [.agg p.row] (.int .i64 (pchk p)) :=
  h.o153.enter 60 rfl fun X bb hfit hp => by
    refine sh ?_
    refine ICall.pure h.n157.o157.hb (between_c h.n157 p.w 1 64) rfl ?_
    refine sh ?_
    refine cS (fun h1 => ?_) (fun h1 => ?_)
    · refine sh ?_
      refine rT ?_
      all_goals repeat' (first | exact True.intro | refine And.intro ?_ ?_ | (intro _u; clear _u) | (with_reducible first | refine eM ?_ ?_ | refine eF ?_ ?_ ?_ | refine eN ?_ | refine eL ?_ ?_ ?_ | refine eA ?_ ?_ | refine IWk.mk ⟨_, hp, rfl⟩ ?_ ?_) | refine IWk.mk ⟨_, hp, rfl⟩ ?_ ?_)
      all_goals first | with_reducible rfl | omega | exact Or.inl (by decide) | (simp; done) | rfl | skip
      unfold pchk; rw [if_pos (.inl (by simp at h1 ⊢; omega))]
    · refine sh ?_
      refine ICall.pure h.n157.o157.hb (between_c h.n157 p.h 1 64) rfl ?_
      refine sh ?_
      refine cS (fun h2 => ?_) (fun h2 => ?_)
      · refine sh ?_
        refine rT ?_
        all_goals repeat' (first | exact True.intro | refine And.intro ?_ ?_ | (intro _u; clear _u) | (with_reducible first | refine eM ?_ ?_ | refine eF ?_ ?_ ?_ | refine eN ?_ | refine eL ?_ ?_ ?_ | refine eA ?_ ?_ | refine IWk.mk ⟨_, hp, rfl⟩ ?_ ?_) | refine IWk.mk ⟨_, hp, rfl⟩ ?_ ?_)
        all_goals first | with_reducible rfl | omega | exact Or.inl (by decide) | (simp; done) | rfl | skip
        unfold pchk; rw [if_pos (.inr (.inl (by simp at h2 ⊢; omega)))]
      · refine sh ?_
        refine ICall.pure h.n157.o157.hb (between_c h.n157 p.deep 1 4) rfl ?_
        refine sh ?_
        refine cS (fun h3 => ?_) (fun h3 => ?_)
        · refine sh ?_
          refine rT ?_
          all_goals repeat' (first | exact True.intro | refine And.intro ?_ ?_ | (intro _u; clear _u) | (with_reducible first | refine eM ?_ ?_ | refine eF ?_ ?_ ?_ | refine eN ?_ | refine eL ?_ ?_ ?_ | refine eA ?_ ?_ | refine IWk.mk ⟨_, hp, rfl⟩ ?_ ?_) | refine IWk.mk ⟨_, hp, rfl⟩ ?_ ?_)
          all_goals first | with_reducible rfl | omega | exact Or.inl (by decide) | (simp; done) | rfl | skip
          unfold pchk; rw [if_pos (.inr (.inr (by simp at h3 ⊢; omega)))]
        · have hw : 1 ≤ p.w ∧ p.w ≤ 64 := by simp at h1; omega
          have hh : 1 ≤ p.h ∧ p.h ≤ 64 := by simp at h2; omega
          have hd : 1 ≤ p.deep ∧ p.deep ≤ 4 := by simp at h3; omega
          have e0 : pchk p = if named p.name = false ∨ (p.data.length : Int) ≠ p.w * p.h * p.deep then 5 else if p.data.all (fun x => decide (0 ≤ x) && decide (x ≤ 65535)) = false then 5 else 0 := by
            unfold pchk; rw [if_neg (by omega)]
          rw [e0]
          refine sh ?_
          refine ICall.pure h.n158.o158.hb (named_c h.n158 p.name hs) rfl ?_
          have b1 : 0 ≤ p.w * p.h ∧ p.w * p.h ≤ 4096 := ⟨Int.mul_nonneg (by omega) (by omega), by have := Int.mul_le_mul hw.2 hh.2 (by omega) (by omega); omega⟩
          have b2 : 0 ≤ p.w * p.h * p.deep ∧ p.w * p.h * p.deep ≤ 16384 := ⟨Int.mul_nonneg b1.1 (by omega), by have := Int.mul_le_mul b1.2 hd.2 (by omega) (by omega); omega⟩
          cases hn : named p.name with
          | false =>
            refine sh ?_
            exact rT
          | true =>
            refine sh ?_
            refine cS (fun h4 => ?_) (fun h4 => ?_)
            · refine sh ?_
              exact rT
            · rw [if_neg (by simp; omega)]
              refine sh ?_
              refine lPa 60 (fun k : Nat => k ≤ p.data.length ∧ (p.data.take k).all (fun x => decide (0 ≤ x) && decide (x ≤ 65535)) = true) (fun k => ⟨[(40, .isl 1 (slcK .i64 p.data)), (41, .int .i64 p.data.length), (42, .int .i64 k)], [], 1⟩) (fun k => p.data.length - k) (0) ?_ ?_
              · exact ⟨Nat.zero_le _, by simp⟩
              · intro k hk
                dsimp only
                refine sh ?_
                refine cS (fun h5 => ?_) (fun h5 => ?_)
                · obtain ⟨x, hx⟩ : ∃ u_, p.data[k]? = some u_ := ⟨_, List.getElem?_eq_getElem (by first | omega | (simp <;> omega))⟩
                  refine sh ?_
                  refine eget_map hx ?_
                  refine sh ?_
                  refine ICall.pure h.n157.o157.hb (between_c h.n157 x 0 65535) rfl ?_
                  refine sh ?_
                  refine cS (fun h6 => ?_) (fun h6 => ?_)
                  · refine sh ?_
                    refine rT ?_
                    all_goals repeat' (first | exact True.intro | refine And.intro ?_ ?_ | (intro _u; clear _u) | (with_reducible first | refine eM ?_ ?_ | refine eF ?_ ?_ ?_ | refine eN ?_ | refine eL ?_ ?_ ?_ | refine eA ?_ ?_ | refine IWk.mk ⟨_, hp, rfl⟩ ?_ ?_) | refine IWk.mk ⟨_, hp, rfl⟩ ?_ ?_)
                    all_goals first | with_reducible rfl | omega | exact Or.inl (by decide) | (simp; done) | rfl | skip
                    rw [if_pos (all_bad hx (by simpa using h6))]
                  · refine sh ?_
                    refine nXa (k + 1) ?_ ?_
                    · refine ⟨by omega, ?_⟩
                      rw [all_take_succ hx, hk.2]; simpa using h6
                    · omega
                · have hk2 := hk.2
                  rw [List.take_of_length_le (by omega)] at hk2
                  rw [if_neg (by rw [hk2]; decide)]
                  refine sh ?_
                  exact rT
def slP (l : List Pl) : List (List AV) := l.map Pl.row
@[simp] theorem slP_nil : slP [] = [] := rfl
@[simp] theorem slP_length (l : List Pl) : (slP l).length = l.length := by simp [slP]
@[simp] theorem slP_append (a b : List Pl) : slP (a ++ b) = slP a ++ slP b := by simp [slP]
@[simp] theorem slP_NmL (l : List Pl) : NmL (slP l) := by simp [slP, Pl.row]
instance {l : List Pl} : LenOf (slP l) l.length := ⟨slP_length l⟩
end Go.UM

namespace Go.UM
open Go.AM
set_option pp.maxSteps 700
structure T3 where
  (a b c : Int)
def t3 (x : T3) : List AV := [.int .i64 x.a, .int .i64 x.b, .int .i64 x.c]
def slc3 (l : List T3) : List (List AV) := l.map t3
@[simp] theorem slc3_nil : slc3 [] = [] := rfl
@[simp] theorem slc3_length (l : List T3) : (slc3 l).length = l.length := by simp [slc3]
@[simp] theorem slc3_append (a b : List T3) : slc3 (a ++ b) = slc3 a ++ slc3 b := by simp [slc3]
@[simp] theorem slc3_NmL (l : List T3) : NmL (slc3 l) := by simp [slc3, t3]
@[simp] theorem slc3_FlL (l : List T3) : FlL (slc3 l) := by simp [slc3, t3]
theorem slc3_take (l : List T3) (k : Nat) : (slc3 l).take k = slc3 (l.take k) := by simp [slc3, List.map_take]
theorem slc3_drop (l : List T3) (k : Nat) : (slc3 l).drop k = slc3 (l.drop k) := by simp [slc3, List.map_drop]
instance {l : List T3} : LenOf (slc3 l) l.length := ⟨slc3_length l⟩
instance {l : List T3} {k : Nat} : TkOf ((slc3 l).take k) (slc3 (l.take k)) := ⟨slc3_take l k⟩
instance {l : List T3} {k : Nat} : TkOf ((slc3 l).drop k) (slc3 (l.drop k)) := ⟨slc3_drop l k⟩
end Go.UM

namespace Go.UM
open Go.AM
set_option pp.maxSteps 700
set_option maxRecDepth 4000
structure Im where
  (w h : Int)
  be : List T3
  (al de : List Int)
  no : List T3
  (as la : List Int)
def Im.row (i : Im) : List AV := [.int .i64 i.w, .int .i64 i.h, .isl 3 (slc3 i.be), .isl 1 (slcK .i64 i.al), .isl 1 (slcK .i64 i.de), .isl 3 (slc3 i.no), .isl 1 (slcK .i64 i.as), .isl 1 (slcK .i64 i.la)]
def zIm : Im := ⟨0, 0, [], [], [], [], [], []⟩
def fl3 (l : List T3) : List Int := l.flatMap fun t => [t.a, t.b, t.c]
theorem fl3_len (l : List T3) : (fl3 l).length = 3 * l.length := by
  induction l with
  | nil => rfl
  | cons x r ih => simp [fl3] at ih ⊢; omega
theorem fl3_succ {l : List T3} {k : Nat} {x : T3} (h : l[k]? = some x) : fl3 (l.take (k + 1)) = fl3 (l.take k) ++ [x.a, x.b, x.c] := by
  unfold fl3; rw [take_succ_get h]; simp
def nmB : List UInt8 := [66, 69, 65, 85, 84, 89]
def nmA : List UInt8 := [65, 76, 80, 72, 65]
def nmD : List UInt8 := [68, 69, 80, 84, 72]
def nmN : List UInt8 := [78, 79, 82, 77, 65, 76]
def nmS : List UInt8 := [65, 83, 83, 69, 84]
def nmL : List UInt8 := [76, 65, 66, 69, 76]
def Im.p0 (i : Im) : Pl := ⟨i.w, i.h, 3, nmB, fl3 i.be⟩
def Im.p1 (i : Im) : Pl := ⟨i.w, i.h, 1, nmA, i.al⟩
def Im.p2 (i : Im) : Pl := ⟨i.w, i.h, 1, nmD, i.de⟩
def Im.p3 (i : Im) : Pl := ⟨i.w, i.h, 3, nmN, fl3 i.no⟩
def Im.p4 (i : Im) : Pl := ⟨i.w, i.h, 1, nmS, i.as⟩
def Im.p5 (i : Im) : Pl := ⟨i.w, i.h, 1, nmL, i.la⟩
def Im.pls (i : Im) : List Pl := [i.p0, i.p1, i.p2, i.p3, i.p4, i.p5]
def ichk (i : Im) : Int :=
  if pchk i.p0 ≠ 0 then pchk i.p0 else if pchk i.p1 ≠ 0 then pchk i.p1 else if pchk i.p2 ≠ 0 then pchk i.p2
  else if pchk i.p3 ≠ 0 then pchk i.p3 else if pchk i.p4 ≠ 0 then pchk i.p4 else if pchk i.p5 ≠ 0 then pchk i.p5 else 0
def planes (i : Im) : List Pl × Int := if ichk i ≠ 0 then ([], ichk i) else (i.pls, 0)
theorem ichk_of {i : Im} (h : pchk i.p0 = 0 ∧ pchk i.p1 = 0 ∧ pchk i.p2 = 0 ∧ pchk i.p3 = 0 ∧ pchk i.p4 = 0 ∧ pchk i.p5 = 0) : ichk i = 0 := by
  obtain ⟨h0, h1, h2, h3, h4, h5⟩ := h
  unfold ichk
  rw [if_neg (by simp [h0]), if_neg (by simp [h1]), if_neg (by simp [h2]), if_neg (by simp [h3]), if_neg (by simp [h4]), if_neg (by simp [h5])]
def T3.in16 (t : T3) : Prop := (0 ≤ t.a ∧ t.a ≤ 65535) ∧ (0 ≤ t.b ∧ t.b ≤ 65535) ∧ (0 ≤ t.c ∧ t.c ≤ 65535)
structure Im.Ok (i : Im) : Prop where
  w : 1 ≤ i.w ∧ i.w ≤ 64
  h : 1 ≤ i.h ∧ i.h ≤ 64
  be : (i.be.length : Int) = i.w * i.h
  al : (i.al.length : Int) = i.w * i.h
  de : (i.de.length : Int) = i.w * i.h
  no : (i.no.length : Int) = i.w * i.h
  as : (i.as.length : Int) = i.w * i.h
  la : (i.la.length : Int) = i.w * i.h
  vbe : ∀ t ∈ i.be, t.in16
  val : ∀ x ∈ i.al, 0 ≤ x ∧ x ≤ 65535
  vde : ∀ x ∈ i.de, 0 ≤ x ∧ x ≤ 65535
  vno : ∀ t ∈ i.no, t.in16
  vas : ∀ x ∈ i.as, 0 ≤ x ∧ x ≤ 65535
  vla : ∀ x ∈ i.la, 0 ≤ x ∧ x ≤ 65535
theorem pchk_iff (p : Pl) : pchk p = 0 ↔ (1 ≤ p.w ∧ p.w ≤ 64) ∧ (1 ≤ p.h ∧ p.h ≤ 64) ∧ (1 ≤ p.deep ∧ p.deep ≤ 4) ∧ named p.name = true ∧ (p.data.length : Int) = p.w * p.h * p.deep ∧ ∀ x ∈ p.data, 0 ≤ x ∧ x ≤ 65535 := by
  unfold pchk
  constructor
  · intro h
    split at h
    · cases h
    · split at h
      · cases h
      · split at h
        · cases h
        · rename_i h1 h2 h3
          simp only [Bool.not_eq_false, List.all_eq_true, Bool.and_eq_true, decide_eq_true_eq] at h3
          refine ⟨by omega, by omega, by omega, ?_, by omega, h3⟩
          cases hn : named p.name with
          | true => rfl
          | false => exact absurd (.inl hn) h2
  · rintro ⟨h1, h2, h3, h4, h5, h6⟩
    rw [if_neg (by omega), if_neg (by rw [h4]; simp; exact h5), if_neg]
    simp only [Bool.not_eq_false, List.all_eq_true, Bool.and_eq_true, decide_eq_true_eq]
    exact h6
theorem Im.Ok.few {i : Im} (h : i.Ok) : 1 ≤ i.w * i.h ∧ i.w * i.h ≤ 4096 :=
  ⟨by have := Int.mul_le_mul h.w.1 h.h.1 (by omega) (by have := h.w; omega); omega, by have := Int.mul_le_mul h.w.2 h.h.2 (by have := h.h; omega) (by omega); omega⟩
end Go.UM

namespace Go.UM
open Go.AM
set_option pp.maxSteps 700
set_option maxRecDepth 4000
theorem pchk_2 {p : Pl} (h : ¬ (1 ≤ p.w ∧ p.w ≤ 64) ∨ ¬ (1 ≤ p.h ∧ p.h ≤ 64) ∨ ¬ (1 ≤ p.deep ∧ p.deep ≤ 4)) : pchk p = 2 := by unfold pchk; rw [if_pos h]
theorem pchk_n {p : Pl} (h : ¬ (¬ (1 ≤ p.w ∧ p.w ≤ 64) ∨ ¬ (1 ≤ p.h ∧ p.h ≤ 64) ∨ ¬ (1 ≤ p.deep ∧ p.deep ≤ 4))) (h2 : named p.name = false ∨ (p.data.length : Int) ≠ p.w * p.h * p.deep) : pchk p = 5 := by unfold pchk; rw [if_neg h, if_pos h2]
def px (x : Int) : Bool := decide (0 ≤ x) && decide (x ≤ 65535)
theorem pchk_d {p : Pl} (h : ¬ (¬ (1 ≤ p.w ∧ p.w ≤ 64) ∨ ¬ (1 ≤ p.h ∧ p.h ≤ 64) ∨ ¬ (1 ≤ p.deep ∧ p.deep ≤ 4))) (h2 : ¬ (named p.name = false ∨ (p.data.length : Int) ≠ p.w * p.h * p.deep)) : pchk p = if p.data.all px = false then 5 else 0 := by unfold pchk; rw [if_neg h, if_neg h2]; rfl
theorem rpcheck_c {R : Env} (h : N162 R) (p : Pl) (hs : p.name.length ≤ 1073741824) : R.Pc 162 [.agg p.row] (.int .i64 (pchk p)) :=
  h.o162.enter 100 rfl fun X bb hfit hp => by
    generalize hq : pchk p = q
    refine sh ?_
    refine cS (fun h1 => ?_) (fun h1 => ?_)
    · rw [pchk_2 (by omega)] at hq
      subst hq
      refine sh ?_
      exact rT
    · refine sh ?_
      refine cS (fun h2 => ?_) (fun h2 => ?_)
      · rw [pchk_2 (by omega)] at hq
        subst hq
        refine sh ?_
        exact rT
      · refine sh ?_
        refine cS (fun h3 => ?_) (fun h3 => ?_)
        · rw [pchk_2 (by omega)] at hq
          subst hq
          refine sh ?_
          exact rT
        · refine sh ?_
          refine cS (fun h4 => ?_) (fun h4 => ?_)
          · rw [pchk_2 (by omega)] at hq
            subst hq
            refine sh ?_
            exact rT
          · refine sh ?_
            refine cS (fun h5 => ?_) (fun h5 => ?_)
            · rw [pchk_2 (by omega)] at hq
              subst hq
              refine sh ?_
              exact rT
            · refine sh ?_
              refine cS (fun h6 => ?_) (fun h6 => ?_)
              · rw [pchk_2 (by omega)] at hq
                subst hq
                refine sh ?_
                exact rT
              · have hin : ¬ (¬ (1 ≤ p.w ∧ p.w ≤ 64) ∨ ¬ (1 ≤ p.h ∧ p.h ≤ 64) ∨ ¬ (1 ≤ p.deep ∧ p.deep ≤ 4)) := by omega
                have b1 : 0 ≤ p.w * p.h ∧ p.w * p.h ≤ 4096 := ⟨Int.mul_nonneg (by omega) (by omega), by have := Int.mul_le_mul h2 h4 (by omega) (by omega); omega⟩
                have b2 : 0 ≤ p.w * p.h * p.deep ∧ p.w * p.h * p.deep ≤ 16384 := ⟨Int.mul_nonneg b1.1 (by omega), by have := Int.mul_le_mul b1.2 h6 (by omega) (by omega); omega⟩
                have hnl : ¬ (1 ≤ (p.name.length : Int) ∧ (p.name.length : Int) ≤ 16) → named p.name = false := fun hh => by
                  simp [named]; omega
                refine sh ?_
                refine cS (fun h7 => ?_) (fun h7 => ?_)
                · rw [pchk_n hin (.inl (hnl (by omega)))] at hq
                  subst hq
                  refine sh ?_
                  exact rT
                · refine sh ?_
                  refine cS (fun h8 => ?_) (fun h8 => ?_)
                  · rw [pchk_n hin (.inl (hnl (by omega)))] at hq
                    subst hq
                    refine sh ?_
                    exact rT
                  · refine sh ?_
                    refine cS (fun h9 => ?_) (fun h9 => ?_)
                    · rw [pchk_n hin (.inr h9)] at hq
                      subst hq
                      refine sh ?_
                      exact rT
                    · refine sh ?_
                      refine lPa 100 (fun k : Nat => k ≤ p.name.length ∧ (p.name.take k).all upper = true) (fun k => ⟨[(1, .loc 0 1 0 0), (3, .int .i64 k)], [(0, .var (R.ty 20) p.row)], 1⟩) (fun k => p.name.length - k) (0) ?_ ?_
                      · exact ⟨Nat.zero_le _, by simp⟩
                      · intro k hk
                        dsimp only
                        refine sh ?_
                        refine cS (fun ha => ?_) (fun ha => ?_)
                        · obtain ⟨x, hx⟩ : ∃ u, p.name[k]? = some u := ⟨_, List.getElem?_eq_getElem (by omega)⟩
                          have hgx : p.name.getD ((k : Int)).toNat 0 = x := by simp [List.getD_eq_getElem?_getD, hx]
                          have hx8 := x.toNat_lt
                          refine st ?_
                          rw [hgx]
                          refine sh ?_
                          refine cS (fun hb => ?_) (fun hb => ?_)
                          · have hno : upper x = false := by simp [upper]; omega
                            rw [pchk_n hin (.inl (by simp [named, all_bad hx hno]))] at hq
                            subst hq
                            refine sh ?_
                            exact rT
                          · refine st ?_
                            rw [hgx]
                            refine sh ?_
                            refine cS (fun hc => ?_) (fun hc => ?_)
                            · have hno : upper x = false := by simp [upper]; omega
                              rw [pchk_n hin (.inl (by simp [named, all_bad hx hno]))] at hq
                              subst hq
                              refine sh ?_
                              exact rT
                            · refine sh ?_
                              refine nXa (k + 1) ?_ ?_
                              · refine ⟨by omega, ?_⟩
                                have hyes : upper x = true := by simp [upper]; omega
                                rw [all_take_succ hx, hk.2, hyes]; rfl
                              · omega
                        · have hk2 := hk.2
                          rw [List.take_of_length_le (by omega)] at hk2
                          have hnm : named p.name = true := by simp [named, hk2]; omega
                          rw [pchk_d hin (by rw [hnm]; simp; exact h9)] at hq
                          refine sh ?_
                          refine lPa 100 (fun k : Nat => k ≤ p.data.length ∧ (p.data.take k).all px = true) (fun k => ⟨[(1, .loc 0 1 0 0), (4, .int .i64 k)], [(0, .var (R.ty 20) p.row)], 1⟩) (fun k => p.data.length - k) (0) ?_ ?_
                          · exact ⟨Nat.zero_le _, by simp⟩
                          · intro k hk
                            dsimp only
                            refine sh ?_
                            refine cS (fun hb => ?_) (fun hb => ?_)
                            · obtain ⟨x, hx⟩ : ∃ u_, p.data[k]? = some u_ := ⟨_, List.getElem?_eq_getElem (by first | omega | (simp <;> omega))⟩
                              refine sh ?_
                              refine eget_map hx ?_
                              refine sh ?_
                              refine cS (fun hc => ?_) (fun hc => ?_)
                              · rw [if_pos (all_bad hx (by simp [px]; omega))] at hq
                                subst hq
                                refine sh ?_
                                exact rT
                              · refine sh ?_
                                refine eget_map hx ?_
                                refine sh ?_
                                refine cS (fun hd => ?_) (fun hd => ?_)
                                · rw [if_pos (all_bad hx (by simp [px]; omega))] at hq
                                  subst hq
                                  refine sh ?_
                                  exact rT
                                · refine sh ?_
                                  refine nXa (k + 1) ?_ ?_
                                  · refine ⟨by omega, ?_⟩
                                    have hyes : px x = true := by simp [px]; omega
                                    rw [all_take_succ hx, hk.2, hyes]; rfl
                                  · omega
                            · have hk3 := hk.2
                              rw [List.take_of_length_le (by omega)] at hk3
                              rw [if_neg (by rw [hk3]; decide)] at hq
                              subst hq
                              refine sh ?_
                              exact rT
end Go.UM

namespace Go.UM
open Go.AM
set_option pp.maxSteps 700
set_option maxRecDepth 4000
theorem flat_c {R : Env} (h : N151 R) (l : List T3) (hl : l.length ≤ 5000) : R.Pc 151 [.isl 3 (slc3 l)] (.isl 1 (slcK .i64 (fl3 l))) :=
  h.o151.enter 100 rfl fun X bb hfit hp => by
    refine sh ?_
    refine ILoop.one 100 ?_
    by_cases h0 : l = []
    · subst h0
      refine sh ?_
      refine acnd_f (by decide) ?_
      refine sh ?_
      exact rT
    · have h1 : 1 ≤ l.length := Nat.one_le_iff_ne_zero.2 fun e => h0 (List.eq_nil_of_length_eq_zero e)
      have h1' : (slc3 l).length = l.length := by simp
      refine sh ?_
      refine acnd_t (by simp; omega) ?_
      obtain ⟨x, hx⟩ : ∃ u_, l[0]? = some u_ := ⟨_, List.getElem?_eq_getElem (by first | omega | (simp <;> omega))⟩
      refine sh ?_
      refine eget_map hx ?_
      have e1 := fl3_succ hx
      refine sh ?_
      refine ILoop.inv 100 (fun k : Nat => 1 ≤ k ∧ k ≤ l.length) (fun k => ⟨[(3, .osl 1 (fl3 (l.take k)).length), (6, .isl 3 (slc3 l)), (7, .int .i64 l.length), (8, .int .i64 k)], [(1, .arr (R.ty 10) 1 (slcK .i64 (fl3 (l.take k))))], 2⟩) (fun k => l.length - k) (1) ?_ ⟨⟨_, hp, rfl⟩, ?_, ?_⟩ ?_
      · exact ⟨Nat.le_refl _, h1⟩
      · all_goals repeat' (first | exact True.intro | refine And.intro ?_ ?_ | (intro _u; clear _u) | (with_reducible first | refine eM ?_ ?_ | refine eF ?_ ?_ ?_ | refine eN ?_ | refine eL ?_ ?_ ?_ | refine eA ?_ ?_ | refine IWk.mk ⟨_, hp, rfl⟩ ?_ ?_) | refine IWk.mk ⟨_, hp, rfl⟩ ?_ ?_)
        all_goals first | with_reducible rfl | omega | exact Or.inl (by decide) | (simp; done) | rfl | skip
        all_goals (rw [e1]; rfl)
      · all_goals repeat' (first | exact True.intro | refine And.intro ?_ ?_ | (intro _u; clear _u) | (with_reducible first | refine eM ?_ ?_ | refine eF ?_ ?_ ?_ | refine eN ?_ | refine eL ?_ ?_ ?_ | refine eA ?_ ?_ | refine IWk.mk ⟨_, hp, rfl⟩ ?_ ?_) | refine IWk.mk ⟨_, hp, rfl⟩ ?_ ?_)
        all_goals first | with_reducible rfl | omega | exact Or.inl (by decide) | (simp; done) | rfl | skip
        all_goals (rw [e1]; rfl)
      · intro k hk
        dsimp only
        refine sh ?_
        refine cS (fun h2 => ?_) (fun h2 => ?_)
        · obtain ⟨y, hy⟩ : ∃ u_, l[k]? = some u_ := ⟨_, List.getElem?_eq_getElem (by first | omega | (simp <;> omega))⟩
          refine sh ?_
          refine eget_map hy ?_
          have e2 := fl3_succ hy
          have e3 := fl3_len (l.take k)
          have e4 : (l.take k).length ≤ 5000 := by simp; omega
          generalize fl3 (l.take k) = C at e2 e3 ⊢
          refine sh ?_
          refine nX (k + 1) ?_ ?_ ⟨_, hp, rfl⟩ ?_ ?_
          · omega
          · omega
          · all_goals repeat' (first | exact True.intro | refine And.intro ?_ ?_ | (intro _u; clear _u) | (with_reducible first | refine eM ?_ ?_ | refine eF ?_ ?_ ?_ | refine eN ?_ | refine eL ?_ ?_ ?_ | refine eA ?_ ?_ | refine IWk.mk ⟨_, hp, rfl⟩ ?_ ?_) | refine IWk.mk ⟨_, hp, rfl⟩ ?_ ?_)
            all_goals first | with_reducible rfl | omega | exact Or.inl (by decide) | (simp; done) | rfl | skip
            all_goals (rw [e2]; simp)
          · all_goals repeat' (first | exact True.intro | refine And.intro ?_ ?_ | (intro _u; clear _u) | (with_reducible first | refine eM ?_ ?_ | refine eF ?_ ?_ ?_ | refine eN ?_ | refine eL ?_ ?_ ?_ | refine eA ?_ ?_ | refine IWk.mk ⟨_, hp, rfl⟩ ?_ ?_) | refine IWk.mk ⟨_, hp, rfl⟩ ?_ ?_)
            all_goals first | with_reducible rfl | omega | exact Or.inl (by decide) | (simp; done) | rfl | skip
            all_goals (rw [e2]; simp [slcK])
        · rw [List.take_of_length_le (by omega)]
          refine sh ?_
          exact rT
theorem rflat_c {R : Env} (h : N159 R) (l : List T3) (hl : l.length ≤ 5000) : R.Pc 159 [.isl 3 (slc3 l)] (.isl 1 (slcK .i64 (fl3 l))) :=
  h.o159.enter 100 rfl fun X bb hfit hp => by
    refine sh ?_
    refine ILoop.one 100 ?_
    by_cases h0 : l = []
    · subst h0
      refine sh ?_
      refine acnd_f (by decide) ?_
      refine sh ?_
      exact rT
    · have h1 : 1 ≤ l.length := Nat.one_le_iff_ne_zero.2 fun e => h0 (List.eq_nil_of_length_eq_zero e)
      have h1' : (slc3 l).length = l.length := by simp
      refine sh ?_
      refine acnd_t (by simp; omega) ?_
      obtain ⟨x, hx⟩ : ∃ u_, l[0]? = some u_ := ⟨_, List.getElem?_eq_getElem (by first | omega | (simp <;> omega))⟩
      refine sh ?_
      refine eget_map hx ?_
      refine sh ?_
      refine eget_map hx ?_
      refine sh ?_
      refine eget_map hx ?_
      have e1 := fl3_succ hx
      refine sh ?_
      refine ILoop.inv 100 (fun k : Nat => 1 ≤ k ∧ k ≤ l.length) (fun k => ⟨[(0, .isl 3 (slc3 l)), (3, .osl 1 (fl3 (l.take k)).length), (4, .int .i64 k)], [(1, .arr (R.ty 10) 1 (slcK .i64 (fl3 (l.take k))))], 2⟩) (fun k => l.length - k) (1) ?_ ⟨⟨_, hp, rfl⟩, ?_, ?_⟩ ?_
      · exact ⟨Nat.le_refl _, h1⟩
      · all_goals repeat' (first | exact True.intro | refine And.intro ?_ ?_ | (intro _u; clear _u) | (with_reducible first | refine eM ?_ ?_ | refine eF ?_ ?_ ?_ | refine eN ?_ | refine eL ?_ ?_ ?_ | refine eA ?_ ?_ | refine IWk.mk ⟨_, hp, rfl⟩ ?_ ?_) | refine IWk.mk ⟨_, hp, rfl⟩ ?_ ?_)
        all_goals first | with_reducible rfl | omega | exact Or.inl (by decide) | (simp; done) | rfl | skip
        all_goals (rw [e1]; rfl)
      · all_goals repeat' (first | exact True.intro | refine And.intro ?_ ?_ | (intro _u; clear _u) | (with_reducible first | refine eM ?_ ?_ | refine eF ?_ ?_ ?_ | refine eN ?_ | refine eL ?_ ?_ ?_ | refine eA ?_ ?_ | refine IWk.mk ⟨_, hp, rfl⟩ ?_ ?_) | refine IWk.mk ⟨_, hp, rfl⟩ ?_ ?_)
        all_goals first | with_reducible rfl | omega | exact Or.inl (by decide) | (simp; done) | rfl | skip
        all_goals (rw [e1]; rfl)
      · intro k hk
        dsimp only
        refine sh ?_
        refine cS (fun h2 => ?_) (fun h2 => ?_)
        · obtain ⟨y, hy⟩ : ∃ u_, l[k]? = some u_ := ⟨_, List.getElem?_eq_getElem (by first | omega | (simp <;> omega))⟩
          refine sh ?_
          refine eget_map hy ?_
          refine sh ?_
          refine eget_map hy ?_
          refine sh ?_
          refine eget_map hy ?_
          have e2 := fl3_succ hy
          have e3 := fl3_len (l.take k)
          have e4 : (l.take k).length ≤ 5000 := by simp; omega
          generalize fl3 (l.take k) = C at e2 e3 ⊢
          refine sh ?_
          refine nX (k + 1) ?_ ?_ ⟨_, hp, rfl⟩ ?_ ?_
          · omega
          · omega
          · all_goals repeat' (first | exact True.intro | refine And.intro ?_ ?_ | (intro _u; clear _u) | (with_reducible first | refine eM ?_ ?_ | refine eF ?_ ?_ ?_ | refine eN ?_ | refine eL ?_ ?_ ?_ | refine eA ?_ ?_ | refine IWk.mk ⟨_, hp, rfl⟩ ?_ ?_) | refine IWk.mk ⟨_, hp, rfl⟩ ?_ ?_)
            all_goals first | with_reducible rfl | omega | exact Or.inl (by decide) | (simp; done) | rfl | skip
            all_goals (rw [e2]; simp)
          · all_goals repeat' (first | exact True.intro | refine And.intro ?_ ?_ | (intro _u; clear _u) | (with_reducible first | refine eM ?_ ?_ | refine eF ?_ ?_ ?_ | refine eN ?_ | refine eL ?_ ?_ ?_ | refine eA ?_ ?_ | refine IWk.mk ⟨_, hp, rfl⟩ ?_ ?_) | refine IWk.mk ⟨_, hp, rfl⟩ ?_ ?_)
            all_goals first | with_reducible rfl | omega | exact Or.inl (by decide) | (simp; done) | rfl | skip
            all_goals (rw [e2]; simp [slcK])
        · rw [List.take_of_length_le (by omega)]
          refine sh ?_
          exact rT
def krow : List AV := [.int .i64 0, .int .i64 0, .int .i64 3, .str nmB, .nils, .int .i64 0, .int .i64 0, .int .i64 1, .str nmA, .nils, .int .i64 0, .int .i64 0, .int .i64 1, .str nmD, .nils,
  .int .i64 0, .int .i64 0, .int .i64 3, .str nmN, .nils, .int .i64 0, .int .i64 0, .int .i64 1, .str nmS, .nils, .int .i64 0, .int .i64 0, .int .i64 1, .str nmL, .nils]
theorem kinds_c {R : Env} (h : N152 R) : R.Pc 152 [] (.agg krow) :=
  h.o152.enter 60 rfl fun X bb hfit hp => by
    refine sh ?_
    exact rT
def slS (l : List (List UInt8)) : List (List AV) := l.map fun s => [.str s]
@[simp] theorem slS_length (l : List (List UInt8)) : (slS l).length = l.length := by simp [slS]
theorem deeps_c {R : Env} (h : N160 R) : R.Pc 160 [] (.isl 1 (slcK .i64 [3, 1, 1, 3, 1, 1])) :=
  h.o160.enter 60 rfl fun X bb hfit hp => by
    refine sh ?_
    exact rT
theorem names_c {R : Env} (h : N161 R) : R.Pc 161 [] (.isl 1 (slS [nmB, nmA, nmD, nmN, nmS, nmL])) :=
  h.o161.enter 60 rfl fun X bb hfit hp => by
    refine sh ?_
    exact rT
theorem nm_len : ∀ {i : Im}, i.p0.name.length ≤ 1073741824 ∧ i.p1.name.length ≤ 1073741824 ∧ i.p2.name.length ≤ 1073741824 ∧ i.p3.name.length ≤ 1073741824 ∧ i.p4.name.length ≤ 1073741824 ∧ i.p5.name.length ≤ 1073741824 := by
  intro i; simp [Im.p0, Im.p1, Im.p2, Im.p3, Im.p4, Im.p5, nmB, nmA, nmD, nmN, nmS, nmL]
structure Im.Few (i : Im) : Prop where
  be : i.be.length ≤ 5000
  al : i.al.length ≤ 5000
  de : i.de.length ≤ 5000
  no : i.no.length ≤ 5000
  as : i.as.length ≤ 5000
  la : i.la.length ≤ 5000
set_option maxHeartbeats 1000000 in
theorem planes_c {R : Env} (h : N132 R) (i : Im) (few : i.Few) : R.Pc 132 [.agg i.row] (.tup [.isl 5 (slP (planes i).1), .int .i64 (planes i).2]) :=
  h.o132.enter 100 rfl fun X bb hfit hp => by
    obtain ⟨f0, f1, f2, f3, f4, f5⟩ := few
    have g0 := fl3_len i.be
    have g3 := fl3_len i.no
    generalize hq : planes i = q
    refine sh ?_
    refine ICall.pure h.n151.o151.hb (flat_c h.n151 i.be f0) rfl ?_
    refine sh ?_
    refine ICall.pure h.n151.o151.hb (flat_c h.n151 i.no f3) rfl ?_
    refine sh ?_
    refine ICall.pure h.n152.o152.hb (kinds_c h.n152) rfl ?_
    refine sh ?_
    refine ILoop.one 100 ?_
    refine sh ?_
    refine acnd_t (by decide) ?_
    refine sh ?_
    refine ICall.let [3] rfl hp rfl ?_
    repeat ((intro _u; clear _u); first | refine eZ ?_ | refine eZ ?_ (by simp; omega) | refine FrzC.drop ?_)
    refine sh ?_
    refine ICall.pure h.n153.o153.hb (pcheck_c h.n153 i.p0 nm_len.1) rfl ?_
    refine sh ?_
    refine cS (fun c0 => ?_) (fun c0 => ?_)
    · have e : ichk i = pchk i.p0 := by unfold ichk; rw [if_pos c0]
      rw [planes, e, if_pos c0] at hq
      subst hq
      refine sh ?_
      exact rT
    · refine sh ?_
      refine ILoop.one 100 ?_
      refine sh ?_
      refine acnd_t (by decide) ?_
      refine sh ?_
      refine ICall.let [7] rfl hp rfl ?_
      repeat ((intro _u; clear _u); first | refine eZ ?_ | refine eZ ?_ (by simp; omega) | refine FrzC.drop ?_)
      refine sh ?_
      refine ICall.pure h.n153.o153.hb (pcheck_c h.n153 i.p1 nm_len.2.1) rfl ?_
      refine sh ?_
      refine cS (fun c1 => ?_) (fun c1 => ?_)
      · have e : ichk i = pchk i.p1 := by unfold ichk; rw [if_neg (fun hh => hh c0), if_pos c1]
        rw [planes, e, if_pos c1] at hq
        subst hq
        refine sh ?_
        exact rT
      · refine sh ?_
        refine ILoop.one 100 ?_
        refine sh ?_
        refine acnd_t (by decide) ?_
        refine sh ?_
        refine ICall.let [10] rfl hp rfl ?_
        repeat ((intro _u; clear _u); first | refine eZ ?_ | refine eZ ?_ (by simp; omega) | refine FrzC.drop ?_)
        refine sh ?_
        refine ICall.pure h.n153.o153.hb (pcheck_c h.n153 i.p2 nm_len.2.2.1) rfl ?_
        refine sh ?_
        refine cS (fun c2 => ?_) (fun c2 => ?_)
        · have e : ichk i = pchk i.p2 := by unfold ichk; rw [if_neg (fun hh => hh c0), if_neg (fun hh => hh c1), if_pos c2]
          rw [planes, e, if_pos c2] at hq
          subst hq
          refine sh ?_
          exact rT
        · refine sh ?_
          refine ILoop.one 100 ?_
          refine sh ?_
          refine acnd_t (by decide) ?_
          refine sh ?_
          refine ICall.let [13] rfl hp rfl ?_
          repeat ((intro _u; clear _u); first | refine eZ ?_ | refine eZ ?_ (by simp; omega) | refine FrzC.drop ?_)
          refine sh ?_
          refine ICall.pure h.n153.o153.hb (pcheck_c h.n153 i.p3 nm_len.2.2.2.1) rfl ?_
          refine sh ?_
          refine cS (fun c3 => ?_) (fun c3 => ?_)
          · have e : ichk i = pchk i.p3 := by unfold ichk; rw [if_neg (fun hh => hh c0), if_neg (fun hh => hh c1), if_neg (fun hh => hh c2), if_pos c3]
            rw [planes, e, if_pos c3] at hq
            subst hq
            refine sh ?_
            exact rT
          · refine sh ?_
            refine ILoop.one 100 ?_
            refine sh ?_
            refine acnd_t (by decide) ?_
            refine sh ?_
            refine ICall.let [16] rfl hp rfl ?_
            repeat ((intro _u; clear _u); first | refine eZ ?_ | refine eZ ?_ (by simp; omega) | refine FrzC.drop ?_)
            refine sh ?_
            refine ICall.pure h.n153.o153.hb (pcheck_c h.n153 i.p4 nm_len.2.2.2.2.1) rfl ?_
            refine sh ?_
            refine cS (fun c4 => ?_) (fun c4 => ?_)
            · have e : ichk i = pchk i.p4 := by unfold ichk; rw [if_neg (fun hh => hh c0), if_neg (fun hh => hh c1), if_neg (fun hh => hh c2), if_neg (fun hh => hh c3), if_pos c4]
              rw [planes, e, if_pos c4] at hq
              subst hq
              refine sh ?_
              exact rT
            · refine sh ?_
              refine ILoop.one 100 ?_
              refine sh ?_
              refine acnd_t (by decide) ?_
              refine sh ?_
              refine ICall.let [19] rfl hp rfl ?_
              repeat ((intro _u; clear _u); first | refine eZ ?_ | refine eZ ?_ (by simp; omega) | refine FrzC.drop ?_)
              refine sh ?_
              refine ICall.pure h.n153.o153.hb (pcheck_c h.n153 i.p5 nm_len.2.2.2.2.2) rfl ?_
              refine sh ?_
              refine cS (fun c5 => ?_) (fun c5 => ?_)
              · have e : ichk i = pchk i.p5 := by unfold ichk; rw [if_neg (fun hh => hh c0), if_neg (fun hh => hh c1), if_neg (fun hh => hh c2), if_neg (fun hh => hh c3), if_neg (fun hh => hh c4), if_pos c5]
                rw [planes, e, if_pos c5] at hq
                subst hq
                refine sh ?_
                exact rT
              · refine sh ?_
                refine ILoop.one 100 ?_
                refine sh ?_
                refine acnd_f (by decide) ?_
                rw [planes, if_neg (fun hh => hh (ichk_of ⟨c0, c1, c2, c3, c4, c5⟩))] at hq
                subst hq
                refine sh ?_
                exact rT
set_option maxHeartbeats 1000000 in
theorem rplanes_c {R : Env} (h : N155 R) (i : Im) (few : i.Few) : R.Pc 155 [.agg i.row] (.tup [.isl 5 (slP (planes i).1), .int .i64 (planes i).2]) :=
  h.o155.enter 100 rfl fun X bb hfit hp => by
    obtain ⟨f0, f1, f2, f3, f4, f5⟩ := few
    have g0 := fl3_len i.be
    have g3 := fl3_len i.no
    generalize hq : planes i = q
    refine sh ?_
    refine ICall.pure h.n159.o159.hb (rflat_c h.n159 i.be f0) rfl ?_
    refine sh ?_
    refine ICall.pure h.n159.o159.hb (rflat_c h.n159 i.no f3) rfl ?_
    refine sh ?_
    refine ILoop.one 100 ?_
    refine sh ?_
    refine acnd_t (by decide) ?_
    refine sh ?_
    refine ICall.pure h.n160.o160.hb (deeps_c h.n160) rfl ?_
    refine sh ?_
    refine eget_map (show ([3, 1, 1, 3, 1, 1] : List Int)[0]? = some _ from rfl) ?_
    refine sh ?_
    refine ICall.pure h.n161.o161.hb (names_c h.n161) rfl ?_
    refine sh ?_
    refine eget_map (show ([nmB, nmA, nmD, nmN, nmS, nmL] : List (List UInt8))[0]? = some _ from rfl) ?_
    refine sh ?_
    refine aelt_lit rfl ?_
    refine sh ?_
    refine ICall.pure h.n162.o162.hb (rpcheck_c h.n162 i.p0 nm_len.1) rfl ?_
    refine sh ?_
    refine cS (fun c0 => ?_) (fun c0 => ?_)
    · have e : ichk i = pchk i.p0 := by unfold ichk; rw [if_pos c0]
      rw [planes, e, if_pos c0] at hq
      subst hq
      refine sh ?_
      exact rT
    · refine sh ?_
      refine ILoop.one 100 ?_
      refine sh ?_
      refine acnd_t (by decide) ?_
      refine sh ?_
      refine ICall.pure h.n160.o160.hb (deeps_c h.n160) rfl ?_
      refine sh ?_
      refine eget_map (show ([3, 1, 1, 3, 1, 1] : List Int)[1]? = some _ from rfl) ?_
      refine sh ?_
      refine ICall.pure h.n161.o161.hb (names_c h.n161) rfl ?_
      refine sh ?_
      refine eget_map (show ([nmB, nmA, nmD, nmN, nmS, nmL] : List (List UInt8))[1]? = some _ from rfl) ?_
      refine sh ?_
      refine aelt_lit rfl ?_
      refine sh ?_
      refine ICall.pure h.n162.o162.hb (rpcheck_c h.n162 i.p1 nm_len.2.1) rfl ?_
      refine sh ?_
      refine cS (fun c1 => ?_) (fun c1 => ?_)
      · have e : ichk i = pchk i.p1 := by unfold ichk; rw [if_neg (fun hh => hh c0), if_pos c1]
        rw [planes, e, if_pos c1] at hq
        subst hq
        refine sh ?_
        exact rT
      · refine sh ?_
        refine ILoop.one 100 ?_
        refine sh ?_
        refine acnd_t (by decide) ?_
        refine sh ?_
        refine ICall.pure h.n160.o160.hb (deeps_c h.n160) rfl ?_
        refine sh ?_
        refine eget_map (show ([3, 1, 1, 3, 1, 1] : List Int)[2]? = some _ from rfl) ?_
        refine sh ?_
        refine ICall.pure h.n161.o161.hb (names_c h.n161) rfl ?_
        refine sh ?_
        refine eget_map (show ([nmB, nmA, nmD, nmN, nmS, nmL] : List (List UInt8))[2]? = some _ from rfl) ?_
        refine sh ?_
        refine aelt_lit rfl ?_
        refine sh ?_
        refine ICall.pure h.n162.o162.hb (rpcheck_c h.n162 i.p2 nm_len.2.2.1) rfl ?_
        refine sh ?_
        refine cS (fun c2 => ?_) (fun c2 => ?_)
        · have e : ichk i = pchk i.p2 := by unfold ichk; rw [if_neg (fun hh => hh c0), if_neg (fun hh => hh c1), if_pos c2]
          rw [planes, e, if_pos c2] at hq
          subst hq
          refine sh ?_
          exact rT
        · refine sh ?_
          refine ILoop.one 100 ?_
          refine sh ?_
          refine acnd_t (by decide) ?_
          refine sh ?_
          refine ICall.pure h.n160.o160.hb (deeps_c h.n160) rfl ?_
          refine sh ?_
          refine eget_map (show ([3, 1, 1, 3, 1, 1] : List Int)[3]? = some _ from rfl) ?_
          refine sh ?_
          refine ICall.pure h.n161.o161.hb (names_c h.n161) rfl ?_
          refine sh ?_
          refine eget_map (show ([nmB, nmA, nmD, nmN, nmS, nmL] : List (List UInt8))[3]? = some _ from rfl) ?_
          refine sh ?_
          refine aelt_lit rfl ?_
          refine sh ?_
          refine ICall.pure h.n162.o162.hb (rpcheck_c h.n162 i.p3 nm_len.2.2.2.1) rfl ?_
          refine sh ?_
          refine cS (fun c3 => ?_) (fun c3 => ?_)
          · have e : ichk i = pchk i.p3 := by unfold ichk; rw [if_neg (fun hh => hh c0), if_neg (fun hh => hh c1), if_neg (fun hh => hh c2), if_pos c3]
            rw [planes, e, if_pos c3] at hq
            subst hq
            refine sh ?_
            exact rT
          · refine sh ?_
            refine ILoop.one 100 ?_
            refine sh ?_
            refine acnd_t (by decide) ?_
            refine sh ?_
            refine ICall.pure h.n160.o160.hb (deeps_c h.n160) rfl ?_
            refine sh ?_
            refine eget_map (show ([3, 1, 1, 3, 1, 1] : List Int)[4]? = some _ from rfl) ?_
            refine sh ?_
            refine ICall.pure h.n161.o161.hb (names_c h.n161) rfl ?_
            refine sh ?_
            refine eget_map (show ([nmB, nmA, nmD, nmN, nmS, nmL] : List (List UInt8))[4]? = some _ from rfl) ?_
            refine sh ?_
            refine aelt_lit rfl ?_
            refine sh ?_
            refine ICall.pure h.n162.o162.hb (rpcheck_c h.n162 i.p4 nm_len.2.2.2.2.1) rfl ?_
            refine sh ?_
            refine cS (fun c4 => ?_) (fun c4 => ?_)
            · have e : ichk i = pchk i.p4 := by unfold ichk; rw [if_neg (fun hh => hh c0), if_neg (fun hh => hh c1), if_neg (fun hh => hh c2), if_neg (fun hh => hh c3), if_pos c4]
              rw [planes, e, if_pos c4] at hq
              subst hq
              refine sh ?_
              exact rT
            · refine sh ?_
              refine ILoop.one 100 ?_
              refine sh ?_
              refine acnd_t (by decide) ?_
              refine sh ?_
              refine ICall.pure h.n160.o160.hb (deeps_c h.n160) rfl ?_
              refine sh ?_
              refine eget_map (show ([3, 1, 1, 3, 1, 1] : List Int)[5]? = some _ from rfl) ?_
              refine sh ?_
              refine ICall.pure h.n161.o161.hb (names_c h.n161) rfl ?_
              refine sh ?_
              refine eget_map (show ([nmB, nmA, nmD, nmN, nmS, nmL] : List (List UInt8))[5]? = some _ from rfl) ?_
              refine sh ?_
              refine aelt_lit rfl ?_
              refine sh ?_
              refine ICall.pure h.n162.o162.hb (rpcheck_c h.n162 i.p5 nm_len.2.2.2.2.2) rfl ?_
              refine sh ?_
              refine cS (fun c5 => ?_) (fun c5 => ?_)
              · have e : ichk i = pchk i.p5 := by unfold ichk; rw [if_neg (fun hh => hh c0), if_neg (fun hh => hh c1), if_neg (fun hh => hh c2), if_neg (fun hh => hh c3), if_neg (fun hh => hh c4), if_pos c5]
                rw [planes, e, if_pos c5] at hq
                subst hq
                refine sh ?_
                exact rT
              · refine sh ?_
                refine ILoop.one 100 ?_
                refine sh ?_
                refine acnd_f (by decide) ?_
                rw [planes, if_neg (fun hh => hh (ichk_of ⟨c0, c1, c2, c3, c4, c5⟩))] at hq
                subst hq
                refine sh ?_
                exact rT
end Go.UM

namespace Go.UM
open Go.AM
set_option pp.maxSteps 700
set_option maxRecDepth 4000
end Go.UM

namespace Go.UM
open Go.AM
set_option pp.maxSteps 700
set_option maxRecDepth 4000
def decN (n : Nat) : List UInt8 := if n < 10 then [UInt8.ofNat (48 + n)] else [UInt8.ofNat (48 + n / 10), UInt8.ofNat (48 + n % 10)]
def dec (n : Int) : List UInt8 := decN n.toNat
theorem small1 : ∀ n : Fin 10, List.drop n.val (List.take (n.val + 1) ([48, 49, 50, 51, 52, 53, 54, 55, 56, 57, 97, 98, 99, 100, 101, 102, 103, 104, 105, 106, 107, 108, 109, 110, 111, 112, 113, 114, 115, 116, 117, 118, 119, 120, 121, 122] : List UInt8)) = decN n.val := by decide
def smalls : List UInt8 := [48, 48, 48, 49, 48, 50, 48, 51, 48, 52, 48, 53, 48, 54, 48, 55, 48, 56, 48, 57, 49, 48, 49, 49, 49, 50, 49, 51, 49, 52, 49, 53, 49, 54, 49, 55, 49, 56, 49, 57, 50, 48, 50, 49, 50, 50, 50, 51, 50, 52, 50, 53, 50, 54, 50, 55, 50, 56, 50, 57, 51, 48, 51, 49, 51, 50, 51, 51, 51, 52, 51, 53, 51, 54, 51, 55, 51, 56, 51, 57, 52, 48, 52, 49, 52, 50, 52, 51, 52, 52, 52, 53, 52, 54, 52, 55, 52, 56, 52, 57, 53, 48, 53, 49, 53, 50, 53, 51, 53, 52, 53, 53, 53, 54, 53, 55, 53, 56, 53, 57, 54, 48, 54, 49, 54, 50, 54, 51, 54, 52, 54, 53, 54, 54, 54, 55, 54, 56, 54, 57, 55, 48, 55, 49, 55, 50, 55, 51, 55, 52, 55, 53, 55, 54, 55, 55, 55, 56, 55, 57, 56, 48, 56, 49, 56, 50, 56, 51, 56, 52, 56, 53, 56, 54, 56, 55, 56, 56, 56, 57, 57, 48, 57, 49, 57, 50, 57, 51, 57, 52, 57, 53, 57, 54, 57, 55, 57, 56, 57, 57]
theorem small2 : ∀ n : Fin 100, 10 ≤ n.val → List.drop (n.val * 2) (List.take (n.val * 2 + 2) smalls) = decN n.val := by decide
theorem small_c {R : Env} (h : N400 R) (n : Int) (h0 : 0 ≤ n) (h1 : n < 100) : R.Pc 400 [.int .i64 n] (.str (dec n)) :=
  h.o400.enter 60 rfl fun X bb hfit hp => by
    refine sh ?_
    refine cS (fun h1 => ?_) (fun h1 => ?_)
    · obtain ⟨k, rfl⟩ : ∃ k : Nat, n = k := ⟨n.toNat, by omega⟩
      refine sh ?_
      refine asub_eq (by exact small1 ⟨k, by omega⟩) ?_
      refine sh ?_
      exact rT
    · obtain ⟨k, rfl⟩ : ∃ k : Nat, n = k := ⟨n.toNat, by omega⟩
      refine sh ?_
      refine asub_eq (by exact small2 ⟨k, by omega⟩ (by simp at h1 ⊢; omega)) ?_
      refine sh ?_
      exact rT
theorem fmt_c {R : Env} (h : N399 R) (n : Int) (h0 : 0 ≤ n) (h1 : n < 100) : R.Pc 399 [.int .i64 n, .int .i64 10] (.str (dec n)) :=
  h.o399.enter 60 rfl fun X bb hfit hp => by
    refine sh ?_
    refine acnd_t (by decide) ?_
    refine sh ?_
    refine acnd_t (by simp; omega) ?_
    refine sh ?_
    refine acnd_t (by simp; omega) ?_
    refine sh ?_
    refine ICall.pure h.n400.o400.hb (small_c h.n400 n h0 h1) rfl ?_
    refine sh ?_
    exact rT
theorem itoa0_c {R : Env} (h : N396 R) (n : Int) (h0 : 0 ≤ n) (h1 : n < 100) : R.Pc 396 [.int .i64 n] (.str (dec n)) :=
  h.o396.enter 60 rfl fun X bb hfit hp => by
    refine sh ?_
    refine ICall.pure h.n399.o399.hb (fmt_c h.n399 n h0 h1) rfl ?_
    refine sh ?_
    exact rT
theorem itoa_c {R : Env} (h : N393 R) (n : Int) (h0 : 0 ≤ n) (h1 : n < 100) : R.Pc 393 [.int .i64 n] (.str (dec n)) :=
  h.o393.enter 60 rfl fun X bb hfit hp => by
    refine sh ?_
    refine ICall.pure h.n396.o396.hb (itoa0_c h.n396 n h0 h1) rfl ?_
    refine sh ?_
    exact rT
def hd (p : Pl) : List UInt8 := [80, 55, 10, 87, 73, 68, 84, 72, 32] ++ dec p.w ++ [10, 72, 69, 73, 71, 72, 84, 32] ++ dec p.h ++ [10, 68, 69, 80, 84, 72, 32] ++ dec p.deep ++ [10, 77, 65, 88, 86, 65, 76, 32, 54, 53, 53, 51, 53, 10, 84, 85, 80, 76, 84, 89, 80, 69, 32] ++ p.name ++ [10, 69, 78, 68, 72, 68, 82, 10]
structure Pl.In (p : Pl) : Prop where
  w : 1 ≤ p.w ∧ p.w ≤ 64
  h : 1 ≤ p.h ∧ p.h ≤ 64
  d : 1 ≤ p.deep ∧ p.deep ≤ 4
  n : p.name.length ≤ 1000
theorem dec_len (n : Int) : (dec n).length ≤ 2 := by unfold dec decN; split <;> simp
theorem head_c {R : Env} (h : N381 R) (p : Pl) (hi : p.In) : R.Pc 381 [.agg p.row] (.str (hd p)) :=
  h.o381.enter 100 rfl fun X bb hfit hp => by
    obtain ⟨⟨w0, w1⟩, ⟨h0, h1⟩, ⟨d0, d1⟩, hn⟩ := hi
    have l1 := dec_len p.w
    have l2 := dec_len p.h
    have l3 := dec_len p.deep
    refine sh ?_
    refine ICall.pure h.n393.o393.hb (itoa_c h.n393 p.w (by omega) (by omega)) rfl ?_
    repeat (refine st ?_; refine ⟨by simp only [List.length_append, List.length_cons, List.length_nil]; omega, ?_⟩)
    refine sh ?_
    refine ICall.pure h.n393.o393.hb (itoa_c h.n393 p.h (by omega) (by omega)) rfl ?_
    repeat (refine st ?_; refine ⟨by simp only [List.length_append, List.length_cons, List.length_nil]; omega, ?_⟩)
    refine sh ?_
    refine ICall.pure h.n393.o393.hb (itoa_c h.n393 p.deep (by omega) (by omega)) rfl ?_
    repeat (refine st ?_; refine ⟨by simp only [List.length_append, List.length_cons, List.length_nil]; omega, ?_⟩)
    refine sh ?_
    exact rT
def enc2 (l : List Int) : List UInt8 := l.flatMap fun x => [u8 (x / 256), u8 x]
theorem enc2_len (l : List Int) : (enc2 l).length = 2 * l.length := by
  induction l with
  | nil => rfl
  | cons x r ih => simp [enc2] at ih ⊢; omega
theorem enc2_succ {l : List Int} {k : Nat} {x : Int} (h : l[k]? = some x) : enc2 (l.take (k + 1)) = enc2 (l.take k) ++ [u8 (x / 256), u8 x] := by
  rw [take_succ_get h]; simp [enc2]
def penc (p : Pl) : List UInt8 × Int := if pchk p ≠ 0 then ([], pchk p) else (hd p ++ enc2 p.data, 0)
theorem named_le {s : List UInt8} (h : named s = true) : s.length ≤ 16 := by simp [named] at h; omega
theorem pchk_in {p : Pl} (h : pchk p = 0) : p.In := by
  obtain ⟨h1, h2, h3, h4, _⟩ := (pchk_iff p).1 h
  have := named_le h4
  exact ⟨h1, h2, h3, by omega⟩
set_option maxHeartbeats 1000000 in
theorem pencode_c {R : Env} (h : N365 R) (p : Pl) (hn : p.name.length ≤ 1073741824) (hl : p.data.length ≤ 100000) : R.Pc 365 [.agg p.row] (.tup [.isl 1 (slc8 (penc p).1), .int .i64 (penc p).2]) :=
  h.o365.enter 200 rfl fun X bb hfit hp => by
    refine sh ?_
    refine ICall.pure h.n153.o153.hb (pcheck_c h.n153 p hn) rfl ?_
    generalize hq : penc p = q
    refine sh ?_
    refine cS (fun h1 => ?_) (fun h1 => ?_)
    · rw [penc, if_pos (by simpa using h1)] at hq
      subst hq
      refine sh ?_
      exact rT
    · have ok : pchk p = 0 := by simpa using h1
      rw [penc, if_neg (by simpa using h1)] at hq
      subst hq
      have hpi := pchk_in ok
      refine sh ?_
      refine ICall.pure h.n381.o381.hb (head_c h.n381 p hpi) rfl ?_
      have hdl : (hd p).length ≤ 2000 := by
        have l1 := dec_len p.w
        have l2 := dec_len p.h
        have l3 := dec_len p.deep
        have := hpi.n
        simp [hd]; omega
      have hdin := ((pchk_iff p).1 ok).2.2.2.2.2
      generalize hd p = H at hdl ⊢
      refine sh ?_
      refine ILoop.inv 200 (fun i : Nat => i ≤ p.data.length) (fun i => ⟨[(5, .osl 1 (H ++ enc2 (p.data.take i)).length), (17, .isl 1 (slcK .i64 p.data)), (18, .int .i64 p.data.length), (19, .int .i64 i)], [(1, .arr (R.ty 4) 1 (slc8 (H ++ enc2 (p.data.take i))))], 2⟩) (fun i => p.data.length - i) (0) ?_ ⟨⟨_, hp, rfl⟩, ?_, ?_⟩ ?_
      · exact Nat.zero_le _
      · all_goals repeat' (first | exact True.intro | refine And.intro ?_ ?_ | (intro _u; clear _u) | (with_reducible first | refine eM ?_ ?_ | refine eF ?_ ?_ ?_ | refine eN ?_ | refine eL ?_ ?_ ?_ | refine eA ?_ ?_ | refine IWk.mk ⟨_, hp, rfl⟩ ?_ ?_) | refine IWk.mk ⟨_, hp, rfl⟩ ?_ ?_)
        all_goals first | with_reducible rfl | omega | exact Or.inl (by decide) | (simp; done) | rfl | skip
        simp [enc2]
      · all_goals repeat' (first | exact True.intro | refine And.intro ?_ ?_ | (intro _u; clear _u) | (with_reducible first | refine eM ?_ ?_ | refine eF ?_ ?_ ?_ | refine eN ?_ | refine eL ?_ ?_ ?_ | refine eA ?_ ?_ | refine IWk.mk ⟨_, hp, rfl⟩ ?_ ?_) | refine IWk.mk ⟨_, hp, rfl⟩ ?_ ?_)
        all_goals first | with_reducible rfl | omega | exact Or.inl (by decide) | (simp; done) | rfl | skip
        simp [enc2, slc8]
      · intro i hi
        dsimp only
        refine sh ?_
        refine cS (fun h2 => ?_) (fun h2 => ?_)
        · obtain ⟨y, hy⟩ : ∃ u_, p.data[i]? = some u_ := ⟨_, List.getElem?_eq_getElem (by first | omega | (simp <;> omega))⟩
          refine sh ?_
          refine eget_map hy ?_
          have hyin := hdin y (List.mem_of_getElem? hy)
          have hlen := enc2_len (p.data.take i)
          simp only [List.length_take] at hlen
          refine sh ?_
          refine iwr_any ?_
          refine sh ?_
          refine iwr_any ?_
          refine sh ?_
          refine nX (i + 1) ?_ ?_ ⟨_, hp, rfl⟩ ?_ ?_
          · omega
          · omega
          · all_goals repeat' (first | exact True.intro | refine And.intro ?_ ?_ | (intro _u; clear _u) | (with_reducible first | refine eM ?_ ?_ | refine eF ?_ ?_ ?_ | refine eN ?_ | refine eL ?_ ?_ ?_ | refine eA ?_ ?_ | refine IWk.mk ⟨_, hp, rfl⟩ ?_ ?_) | refine IWk.mk ⟨_, hp, rfl⟩ ?_ ?_)
            all_goals first | with_reducible rfl | omega | exact Or.inl (by decide) | (simp; done) | rfl | skip
            rw [enc2_succ hy]; simp
          · all_goals repeat' (first | exact True.intro | refine And.intro ?_ ?_ | (intro _u; clear _u) | (with_reducible first | refine eM ?_ ?_ | refine eF ?_ ?_ ?_ | refine eN ?_ | refine eL ?_ ?_ ?_ | refine eA ?_ ?_ | refine IWk.mk ⟨_, hp, rfl⟩ ?_ ?_) | refine IWk.mk ⟨_, hp, rfl⟩ ?_ ?_)
            all_goals first | with_reducible rfl | omega | exact Or.inl (by decide) | (simp; done) | rfl | skip
            rw [enc2_succ hy]; simp [slc8]
            all_goals (rw [wr_u8, shr_eq hyin.1]; rfl)
        · rw [List.take_of_length_le (by omega)]
          refine sh ?_
          exact rT
end Go.UM

namespace Go.UM
open Go.AM
set_option pp.maxSteps 700
set_option maxRecDepth 4000
def thr1 (l : List Int) (k : Nat) : T3 := ⟨l.getD (3 * k) 0, l.getD (3 * k + 1) 0, l.getD (3 * k + 2) 0⟩
def thrN (l : List Int) (n : Nat) : List T3 := (List.range n).map (thr1 l)
def thr (l : List Int) : List T3 := thrN l (l.length / 3)
theorem thrN_succ (l : List Int) (n : Nat) : thrN l (n + 1) = thrN l n ++ [thr1 l n] := by simp [thrN, List.range_succ]
@[simp] theorem thrN_len (l : List Int) (n : Nat) : (thrN l n).length = n := by simp [thrN]
theorem sub3 {l : List Int} {k : Nat} (h : 3 * k + 3 ≤ l.length) {a b : Int} (ha : a = 3 * k) (hb : b = 3 * k + 3) : List.drop a.toNat (List.take b.toNat (slcK .i64 l)) = slcK .i64 [(thr1 l k).a, (thr1 l k).b, (thr1 l k).c] := by
  subst ha; subst hb
  rw [show (3 * (k : Int)).toNat = 3 * k by omega, show (3 * (k : Int) + 3).toNat = 3 * k + 3 by omega, slcK_take, slcK_drop]
  congr 1
  apply List.ext_getElem
  · simp; omega
  · intro i hi hi'
    simp at hi hi'
    simp only [List.getElem_drop, List.getElem_take, thr1, List.getD_eq_getElem?_getD]
    rcases (show i = 0 ∨ i = 1 ∨ i = 2 by omega) with rfl | rfl | rfl
    · simp [List.getElem?_eq_getElem (show 3 * k < l.length by omega)]
    · simp [List.getElem?_eq_getElem (show 3 * k + 1 < l.length by omega)]
    · simp [List.getElem?_eq_getElem (show 3 * k + 2 < l.length by omega)]
theorem threes30_c {R : Env} (h : N384 R) (l : List Int) (hl : l.length ≤ 30000) : R.Pc 384 [.isl 1 (slcK .i64 l)] (.isl 3 (slc3 (thr l))) :=
  h.o384.enter 100 rfl fun X bb hfit hp => by
    have hlen : (slcK .i64 l).length = l.length := by simp
    unfold thr
    generalize hn : l.length / 3 = n
    refine sh ?_
    refine ILoop.one 100 ?_
    by_cases h0 : n = 0
    · subst h0
      refine sh ?_
      refine acnd_f (by simp; omega) ?_
      refine sh ?_
      exact rT
    · refine sh ?_
      refine acnd_t (by simp; omega) ?_
      refine sh ?_
      refine asub_eq (sub3 (l := l) (k := 0) (by omega) (by rfl) (by rfl)) ?_
      refine sh ?_
      refine asub_eq (ys := [.int .i64 (thr1 l 0).a, .int .i64 (thr1 l 0).b, .int .i64 (thr1 l 0).c]) rfl ?_
      refine sh ?_
      refine lPa 100 (fun k : Nat => 1 ≤ k ∧ k ≤ n) (fun k => ⟨[(0, .isl 1 (slcK .i64 l)), (3, .osl 1 k), (4, .int .i64 (3 * k))], [(1, .arr (R.ty 13) 3 (slc3 (thrN l k)))], 2⟩) (fun k => n - k) (1) ?_ ?_
      · omega
      · intro k hk
        dsimp only
        refine sh ?_
        refine cS (fun h2 => ?_) (fun h2 => ?_)
        · refine sh ?_
          refine asub_eq (sub3 (l := l) (k := k) (by omega) (by omega) (by omega)) ?_
          refine sh ?_
          refine asub_eq (ys := [.int .i64 (thr1 l k).a, .int .i64 (thr1 l k).b, .int .i64 (thr1 l k).c]) rfl ?_
          refine sh ?_
          refine nX (k + 1) ?_ ?_ ⟨_, hp, rfl⟩ ?_ ?_
          · omega
          · omega
          · all_goals repeat' (first | exact True.intro | refine And.intro ?_ ?_ | (intro _u; clear _u) | (with_reducible first | refine eM ?_ ?_ | refine eF ?_ ?_ ?_ | refine eN ?_ | refine eL ?_ ?_ ?_ | refine eA ?_ ?_ | refine IWk.mk ⟨_, hp, rfl⟩ ?_ ?_) | refine IWk.mk ⟨_, hp, rfl⟩ ?_ ?_)
            all_goals first | with_reducible rfl | omega | exact Or.inl (by decide) | (simp; done) | rfl | skip
          · all_goals repeat' (first | exact True.intro | refine And.intro ?_ ?_ | (intro _u; clear _u) | (with_reducible first | refine eM ?_ ?_ | refine eF ?_ ?_ ?_ | refine eN ?_ | refine eL ?_ ?_ ?_ | refine eA ?_ ?_ | refine IWk.mk ⟨_, hp, rfl⟩ ?_ ?_) | refine IWk.mk ⟨_, hp, rfl⟩ ?_ ?_)
            all_goals first | with_reducible rfl | omega | exact Or.inl (by decide) | (simp; done) | rfl | skip
            rw [thrN_succ]; simp [slc3, t3]
        · obtain rfl : k = n := by omega
          refine sh ?_
          exact rT
theorem rthrees30_c {R : Env} (h : N385 R) (l : List Int) (hl : l.length ≤ 30000) : R.Pc 385 [.isl 1 (slcK .i64 l)] (.isl 3 (slc3 (thr l))) :=
  h.o385.enter 100 rfl fun X bb hfit hp => by
    have hlen : (slcK .i64 l).length = l.length := by simp
    have get : ∀ i, i < l.length → l[i]? = some (l.getD i 0) := fun i hi => by simp [List.getD_eq_getElem?_getD, hi]
    unfold thr
    generalize hn : l.length / 3 = n
    refine sh ?_
    refine ILoop.one 100 ?_
    by_cases h0 : n = 0
    · subst h0
      refine sh ?_
      refine acnd_f (by simp; omega) ?_
      refine sh ?_
      exact rT
    · refine sh ?_
      refine acnd_t (by simp; omega) ?_
      refine sh ?_
      refine eget_map (get 0 (by omega)) ?_
      refine sh ?_
      refine eget_map (get 1 (by omega)) ?_
      refine sh ?_
      refine eget_map (get 2 (by omega)) ?_
      refine sh ?_
      refine lPa 100 (fun k : Nat => 1 ≤ k ∧ k ≤ n) (fun k => ⟨[(0, .isl 1 (slcK .i64 l)), (3, .osl 1 k), (4, .int .i64 (3 * k))], [(1, .arr (R.ty 13) 3 (slc3 (thrN l k)))], 2⟩) (fun k => n - k) (1) ?_ ?_
      · omega
      · intro k hk
        dsimp only
        refine sh ?_
        refine cS (fun h2 => ?_) (fun h2 => ?_)
        · refine sh ?_
          refine eget_map (show l[(3 * (k : Int)).toNat]? = some (l.getD (3 * k) 0) from by rw [show (3 * (k : Int)).toNat = 3 * k by omega]; exact get _ (by omega)) ?_
          refine sh ?_
          refine eget_map (show l[(3 * (k : Int) + 1).toNat]? = some (l.getD (3 * k + 1) 0) from by rw [show (3 * (k : Int) + 1).toNat = 3 * k + 1 by omega]; exact get _ (by omega)) ?_
          refine sh ?_
          refine eget_map (show l[(3 * (k : Int) + 2).toNat]? = some (l.getD (3 * k + 2) 0) from by rw [show (3 * (k : Int) + 2).toNat = 3 * k + 2 by omega]; exact get _ (by omega)) ?_
          refine sh ?_
          refine nX (k + 1) ?_ ?_ ⟨_, hp, rfl⟩ ?_ ?_
          · omega
          · omega
          · all_goals repeat' (first | exact True.intro | refine And.intro ?_ ?_ | (intro _u; clear _u) | (with_reducible first | refine eM ?_ ?_ | refine eF ?_ ?_ ?_ | refine eN ?_ | refine eL ?_ ?_ ?_ | refine eA ?_ ?_ | refine IWk.mk ⟨_, hp, rfl⟩ ?_ ?_) | refine IWk.mk ⟨_, hp, rfl⟩ ?_ ?_)
            all_goals first | with_reducible rfl | omega | exact Or.inl (by decide) | (simp; done) | rfl | skip
          · all_goals repeat' (first | exact True.intro | refine And.intro ?_ ?_ | (intro _u; clear _u) | (with_reducible first | refine eM ?_ ?_ | refine eF ?_ ?_ ?_ | refine eN ?_ | refine eL ?_ ?_ ?_ | refine eA ?_ ?_ | refine IWk.mk ⟨_, hp, rfl⟩ ?_ ?_) | refine IWk.mk ⟨_, hp, rfl⟩ ?_ ?_)
            all_goals first | with_reducible rfl | omega | exact Or.inl (by decide) | (simp; done) | rfl | skip
            rw [thrN_succ]; simp [slc3, t3, thr1]
        · obtain rfl : k = n := by omega
          refine sh ?_
          exact rT
end Go.UM

namespace Go.UM
open Go.AM
set_option pp.maxSteps 700
set_option maxRecDepth 4000
def h1 (p0 p : Pl) (nm : List UInt8) (d : Int) : Bool := p.name == nm && p.deep == d && p.w == p0.w && p.h == p0.h
def heads (p0 p1 p2 p3 p4 p5 : Pl) : Bool := h1 p0 p0 nmB 3 && h1 p0 p1 nmA 1 && h1 p0 p2 nmD 1 && h1 p0 p3 nmN 3 && h1 p0 p4 nmS 1 && h1 p0 p5 nmL 1
def pimg6 (p0 p1 p2 p3 p4 p5 : Pl) : Im × Int :=
  if heads p0 p1 p2 p3 p4 p5 = false then (zIm, 5)
  else if pchk p0 ≠ 0 then (zIm, pchk p0) else if pchk p1 ≠ 0 then (zIm, pchk p1) else if pchk p2 ≠ 0 then (zIm, pchk p2)
  else if pchk p3 ≠ 0 then (zIm, pchk p3) else if pchk p4 ≠ 0 then (zIm, pchk p4) else if pchk p5 ≠ 0 then (zIm, pchk p5)
  else (⟨p0.w, p0.h, thr p0.data, p1.data, p2.data, thr p3.data, p4.data, p5.data⟩, 0)
def pimg : List Pl → Im × Int
  | [p0, p1, p2, p3, p4, p5] => pimg6 p0 p1 p2 p3 p4 p5
  | _ => (zIm, 5)
theorem pimg_len {l : List Pl} (h : l.length ≠ 6) : pimg l = (zIm, 5) := by
  match l, h with
  | [], _ => rfl
  | [_], _ => rfl
  | [_, _], _ => rfl
  | [_, _, _], _ => rfl
  | [_, _, _, _], _ => rfl
  | [_, _, _, _, _], _ => rfl
  | [_, _, _, _, _, _], h => exact absurd rfl h
  | _ :: _ :: _ :: _ :: _ :: _ :: _ :: _, _ => rfl
theorem six {l : List Pl} (h : l.length = 6) : ∃ p0 p1 p2 p3 p4 p5, l = [p0, p1, p2, p3, p4, p5] := by
  match l, h with
  | [p0, p1, p2, p3, p4, p5], _ => exact ⟨p0, p1, p2, p3, p4, p5, rfl⟩
structure SmP (p : Pl) : Prop where
  n : p.name.length ≤ 1000
  d : p.data.length ≤ 30000
theorem copied_c {R : Env} (h : N383 R) (l : List Pl) (k : Nat) (p : Pl) (hk : l[k]? = some p) (hs : SmP p) :
    R.Mc 383 [.int .i64 k, .loc 0 1 0 0] [(0, .var (R.ty 50) [.isl 5 (slP l)])] (.osl 1 p.data.length) [(0, .var (R.ty 50) [.isl 5 (slP l)]), (1, .arr (R.ty 10) 1 (slcK .i64 p.data))] 2 :=
  h.o383.enterM 60 1 rfl rfl rfl fun X bb hfit hp => by
    have hl : k < l.length := (List.getElem?_eq_some_iff.1 hk).1
    have h1 := hs.d
    refine sh ?_
    refine eget_map hk ?_
    refine sh ?_
    exact rM [0, 1]
set_option maxHeartbeats 4000000 in
theorem pimg_c {R : Env} (h : N369 R) (l : List Pl) (hl : l.length ≤ 100) (hs : ∀ p ∈ l, SmP p) : R.Pc 369 [.isl 5 (slP l)] (.tup [.agg (pimg l).1.row, .int .i64 (pimg l).2]) :=
  h.o369.enter 100 rfl fun X bb hfit hp => by
    refine sh ?_
    refine ICall.pure h.n152.o152.hb (kinds_c h.n152) rfl ?_
    have e6 : (slP l).length = l.length := by simp [slP]
    refine sh ?_
    refine cS (fun hn => ?_) (fun hn => ?_)
    · rw [pimg_len (by omega)]
      refine sh ?_
      exact rT
    · obtain ⟨p0, p1, p2, p3, p4, p5, rfl⟩ := six (l := l) (by omega)
      clear e6 hn hl
      have s0 := hs p0 (by simp)
      have s1 := hs p1 (by simp)
      have s2 := hs p2 (by simp)
      have s3 := hs p3 (by simp)
      have s4 := hs p4 (by simp)
      have s5 := hs p5 (by simp)
      have hq : ∃ q, pimg [p0, p1, p2, p3, p4, p5] = q := ⟨_, rfl⟩
      obtain ⟨q, hq⟩ := hq
      rw [hq]
      refine sh ?_
      refine ILoop.one 100 ?_
      refine sh ?_
      refine acnd_t (by rfl) ?_
      refine sh ?_
      refine eget_map (show ([p0, p1, p2, p3, p4, p5] : List Pl)[0]? = some p0 from rfl) ?_
      refine sh ?_
      refine cS (fun a0 => ?_) (fun a0 => ?_)
      · rw [show pimg [p0, p1, p2, p3, p4, p5] = (zIm, 5) from if_pos (by simp [heads, h1, a0])] at hq
        subst hq
        refine sh ?_
        exact rT
      · refine sh ?_
        refine cS (fun b0 => ?_) (fun b0 => ?_)
        · rw [show pimg [p0, p1, p2, p3, p4, p5] = (zIm, 5) from if_pos (by simp [heads, h1, b0])] at hq
          subst hq
          refine sh ?_
          exact rT
        · refine sh ?_
          refine eget_map (show ([p0, p1, p2, p3, p4, p5] : List Pl)[0]? = some p0 from rfl) ?_
          refine sh ?_
          refine acnd_f (by simp) ?_
          refine sh ?_
          refine eget_map (show ([p0, p1, p2, p3, p4, p5] : List Pl)[0]? = some p0 from rfl) ?_
          refine sh ?_
          refine acnd_f (by simp) ?_
          refine sh ?_
          refine ILoop.one 100 ?_
          refine sh ?_
          refine acnd_t (by rfl) ?_
          refine sh ?_
          refine eget_map (show ([p0, p1, p2, p3, p4, p5] : List Pl)[1]? = some p1 from rfl) ?_
          refine sh ?_
          refine cS (fun a1 => ?_) (fun a1 => ?_)
          · rw [show pimg [p0, p1, p2, p3, p4, p5] = (zIm, 5) from if_pos (by simp [heads, h1, a1])] at hq
            subst hq
            refine sh ?_
            exact rT
          · refine sh ?_
            refine cS (fun b1 => ?_) (fun b1 => ?_)
            · rw [show pimg [p0, p1, p2, p3, p4, p5] = (zIm, 5) from if_pos (by simp [heads, h1, b1])] at hq
              subst hq
              refine sh ?_
              exact rT
            · refine sh ?_
              refine eget_map (show ([p0, p1, p2, p3, p4, p5] : List Pl)[0]? = some p0 from rfl) ?_
              refine sh ?_
              refine cS (fun c1 => ?_) (fun c1 => ?_)
              · rw [show pimg [p0, p1, p2, p3, p4, p5] = (zIm, 5) from if_pos (by simp [heads, h1, c1])] at hq
                subst hq
                refine sh ?_
                exact rT
              · refine sh ?_
                refine eget_map (show ([p0, p1, p2, p3, p4, p5] : List Pl)[0]? = some p0 from rfl) ?_
                refine sh ?_
                refine cS (fun d1 => ?_) (fun d1 => ?_)
                · rw [show pimg [p0, p1, p2, p3, p4, p5] = (zIm, 5) from if_pos (by simp [heads, h1, d1])] at hq
                  subst hq
                  refine sh ?_
                  exact rT
                · skip
                  refine sh ?_
                  refine ILoop.one 100 ?_
                  refine sh ?_
                  refine acnd_t (by rfl) ?_
                  refine sh ?_
                  refine eget_map (show ([p0, p1, p2, p3, p4, p5] : List Pl)[2]? = some p2 from rfl) ?_
                  refine sh ?_
                  refine cS (fun a2 => ?_) (fun a2 => ?_)
                  · rw [show pimg [p0, p1, p2, p3, p4, p5] = (zIm, 5) from if_pos (by simp [heads, h1, a2])] at hq
                    subst hq
                    refine sh ?_
                    exact rT
                  · refine sh ?_
                    refine cS (fun b2 => ?_) (fun b2 => ?_)
                    · rw [show pimg [p0, p1, p2, p3, p4, p5] = (zIm, 5) from if_pos (by simp [heads, h1, b2])] at hq
                      subst hq
                      refine sh ?_
                      exact rT
                    · refine sh ?_
                      refine eget_map (show ([p0, p1, p2, p3, p4, p5] : List Pl)[0]? = some p0 from rfl) ?_
                      refine sh ?_
                      refine cS (fun c2 => ?_) (fun c2 => ?_)
                      · rw [show pimg [p0, p1, p2, p3, p4, p5] = (zIm, 5) from if_pos (by simp [heads, h1, c2])] at hq
                        subst hq
                        refine sh ?_
                        exact rT
                      · refine sh ?_
                        refine eget_map (show ([p0, p1, p2, p3, p4, p5] : List Pl)[0]? = some p0 from rfl) ?_
                        refine sh ?_
                        refine cS (fun d2 => ?_) (fun d2 => ?_)
                        · rw [show pimg [p0, p1, p2, p3, p4, p5] = (zIm, 5) from if_pos (by simp [heads, h1, d2])] at hq
                          subst hq
                          refine sh ?_
                          exact rT
                        · skip
                          refine sh ?_
                          refine ILoop.one 100 ?_
                          refine sh ?_
                          refine acnd_t (by rfl) ?_
                          refine sh ?_
                          refine eget_map (show ([p0, p1, p2, p3, p4, p5] : List Pl)[3]? = some p3 from rfl) ?_
                          refine sh ?_
                          refine cS (fun a3 => ?_) (fun a3 => ?_)
                          · rw [show pimg [p0, p1, p2, p3, p4, p5] = (zIm, 5) from if_pos (by simp [heads, h1, a3])] at hq
                            subst hq
                            refine sh ?_
                            exact rT
                          · refine sh ?_
                            refine cS (fun b3 => ?_) (fun b3 => ?_)
                            · rw [show pimg [p0, p1, p2, p3, p4, p5] = (zIm, 5) from if_pos (by simp [heads, h1, b3])] at hq
                              subst hq
                              refine sh ?_
                              exact rT
                            · refine sh ?_
                              refine eget_map (show ([p0, p1, p2, p3, p4, p5] : List Pl)[0]? = some p0 from rfl) ?_
                              refine sh ?_
                              refine cS (fun c3 => ?_) (fun c3 => ?_)
                              · rw [show pimg [p0, p1, p2, p3, p4, p5] = (zIm, 5) from if_pos (by simp [heads, h1, c3])] at hq
                                subst hq
                                refine sh ?_
                                exact rT
                              · refine sh ?_
                                refine eget_map (show ([p0, p1, p2, p3, p4, p5] : List Pl)[0]? = some p0 from rfl) ?_
                                refine sh ?_
                                refine cS (fun d3 => ?_) (fun d3 => ?_)
                                · rw [show pimg [p0, p1, p2, p3, p4, p5] = (zIm, 5) from if_pos (by simp [heads, h1, d3])] at hq
                                  subst hq
                                  refine sh ?_
                                  exact rT
                                · skip
                                  refine sh ?_
                                  refine ILoop.one 100 ?_
                                  refine sh ?_
                                  refine acnd_t (by rfl) ?_
                                  refine sh ?_
                                  refine eget_map (show ([p0, p1, p2, p3, p4, p5] : List Pl)[4]? = some p4 from rfl) ?_
                                  refine sh ?_
                                  refine cS (fun a4 => ?_) (fun a4 => ?_)
                                  · rw [show pimg [p0, p1, p2, p3, p4, p5] = (zIm, 5) from if_pos (by simp [heads, h1, a4])] at hq
                                    subst hq
                                    refine sh ?_
                                    exact rT
                                  · refine sh ?_
                                    refine cS (fun b4 => ?_) (fun b4 => ?_)
                                    · rw [show pimg [p0, p1, p2, p3, p4, p5] = (zIm, 5) from if_pos (by simp [heads, h1, b4])] at hq
                                      subst hq
                                      refine sh ?_
                                      exact rT
                                    · refine sh ?_
                                      refine eget_map (show ([p0, p1, p2, p3, p4, p5] : List Pl)[0]? = some p0 from rfl) ?_
                                      refine sh ?_
                                      refine cS (fun c4 => ?_) (fun c4 => ?_)
                                      · rw [show pimg [p0, p1, p2, p3, p4, p5] = (zIm, 5) from if_pos (by simp [heads, h1, c4])] at hq
                                        subst hq
                                        refine sh ?_
                                        exact rT
                                      · refine sh ?_
                                        refine eget_map (show ([p0, p1, p2, p3, p4, p5] : List Pl)[0]? = some p0 from rfl) ?_
                                        refine sh ?_
                                        refine cS (fun d4 => ?_) (fun d4 => ?_)
                                        · rw [show pimg [p0, p1, p2, p3, p4, p5] = (zIm, 5) from if_pos (by simp [heads, h1, d4])] at hq
                                          subst hq
                                          refine sh ?_
                                          exact rT
                                        · skip
                                          refine sh ?_
                                          refine ILoop.one 100 ?_
                                          refine sh ?_
                                          refine acnd_t (by rfl) ?_
                                          refine sh ?_
                                          refine eget_map (show ([p0, p1, p2, p3, p4, p5] : List Pl)[5]? = some p5 from rfl) ?_
                                          refine sh ?_
                                          refine cS (fun a5 => ?_) (fun a5 => ?_)
                                          · rw [show pimg [p0, p1, p2, p3, p4, p5] = (zIm, 5) from if_pos (by simp [heads, h1, a5])] at hq
                                            subst hq
                                            refine sh ?_
                                            exact rT
                                          · refine sh ?_
                                            refine cS (fun b5 => ?_) (fun b5 => ?_)
                                            · rw [show pimg [p0, p1, p2, p3, p4, p5] = (zIm, 5) from if_pos (by simp [heads, h1, b5])] at hq
                                              subst hq
                                              refine sh ?_
                                              exact rT
                                            · refine sh ?_
                                              refine eget_map (show ([p0, p1, p2, p3, p4, p5] : List Pl)[0]? = some p0 from rfl) ?_
                                              refine sh ?_
                                              refine cS (fun c5 => ?_) (fun c5 => ?_)
                                              · rw [show pimg [p0, p1, p2, p3, p4, p5] = (zIm, 5) from if_pos (by simp [heads, h1, c5])] at hq
                                                subst hq
                                                refine sh ?_
                                                exact rT
                                              · refine sh ?_
                                                refine eget_map (show ([p0, p1, p2, p3, p4, p5] : List Pl)[0]? = some p0 from rfl) ?_
                                                refine sh ?_
                                                refine cS (fun d5 => ?_) (fun d5 => ?_)
                                                · rw [show pimg [p0, p1, p2, p3, p4, p5] = (zIm, 5) from if_pos (by simp [heads, h1, d5])] at hq
                                                  subst hq
                                                  refine sh ?_
                                                  exact rT
                                                · skip
                                                  refine sh ?_
                                                  refine ILoop.one 100 ?_
                                                  refine sh ?_
                                                  refine acnd_f (by rfl) ?_
                                                  have hh : heads p0 p1 p2 p3 p4 p5 = true := by simp [heads, h1, a0, b0, a1, b1, c1, d1, a2, b2, c2, d2, a3, b3, c3, d3, a4, b4, c4, d4, a5, b5, c5, d5]
                                                  replace hq : pimg6 p0 p1 p2 p3 p4 p5 = q := hq
                                                  rw [pimg6, if_neg (by simp [hh])] at hq
                                                  refine sh ?_
                                                  refine ILoop.one 100 ?_
                                                  refine sh ?_
                                                  refine acnd_t (by rfl) ?_
                                                  refine sh ?_
                                                  refine eget_map (show ([p0, p1, p2, p3, p4, p5] : List Pl)[0]? = some p0 from rfl) ?_
                                                  refine sh ?_
                                                  refine ICall.pure h.n153.o153.hb (pcheck_c h.n153 p0 (by have := s0.n; omega)) rfl ?_
                                                  refine sh ?_
                                                  refine cS (fun e0 => ?_) (fun e0 => ?_)
                                                  · rw [if_pos e0] at hq
                                                    subst hq
                                                    refine sh ?_
                                                    exact rT
                                                  · skip
                                                    refine sh ?_
                                                    refine ILoop.one 100 ?_
                                                    refine sh ?_
                                                    refine acnd_t (by rfl) ?_
                                                    refine sh ?_
                                                    refine eget_map (show ([p0, p1, p2, p3, p4, p5] : List Pl)[1]? = some p1 from rfl) ?_
                                                    refine sh ?_
                                                    refine ICall.pure h.n153.o153.hb (pcheck_c h.n153 p1 (by have := s1.n; omega)) rfl ?_
                                                    refine sh ?_
                                                    refine cS (fun e1 => ?_) (fun e1 => ?_)
                                                    · rw [if_neg (fun hh => hh e0), if_pos e1] at hq
                                                      subst hq
                                                      refine sh ?_
                                                      exact rT
                                                    · skip
                                                      refine sh ?_
                                                      refine ILoop.one 100 ?_
                                                      refine sh ?_
                                                      refine acnd_t (by rfl) ?_
                                                      refine sh ?_
                                                      refine eget_map (show ([p0, p1, p2, p3, p4, p5] : List Pl)[2]? = some p2 from rfl) ?_
                                                      refine sh ?_
                                                      refine ICall.pure h.n153.o153.hb (pcheck_c h.n153 p2 (by have := s2.n; omega)) rfl ?_
                                                      refine sh ?_
                                                      refine cS (fun e2 => ?_) (fun e2 => ?_)
                                                      · rw [if_neg (fun hh => hh e0), if_neg (fun hh => hh e1), if_pos e2] at hq
                                                        subst hq
                                                        refine sh ?_
                                                        exact rT
                                                      · skip
                                                        refine sh ?_
                                                        refine ILoop.one 100 ?_
                                                        refine sh ?_
                                                        refine acnd_t (by rfl) ?_
                                                        refine sh ?_
                                                        refine eget_map (show ([p0, p1, p2, p3, p4, p5] : List Pl)[3]? = some p3 from rfl) ?_
                                                        refine sh ?_
                                                        refine ICall.pure h.n153.o153.hb (pcheck_c h.n153 p3 (by have := s3.n; omega)) rfl ?_
                                                        refine sh ?_
                                                        refine cS (fun e3 => ?_) (fun e3 => ?_)
                                                        · rw [if_neg (fun hh => hh e0), if_neg (fun hh => hh e1), if_neg (fun hh => hh e2), if_pos e3] at hq
                                                          subst hq
                                                          refine sh ?_
                                                          exact rT
                                                        · skip
                                                          refine sh ?_
                                                          refine ILoop.one 100 ?_
                                                          refine sh ?_
                                                          refine acnd_t (by rfl) ?_
                                                          refine sh ?_
                                                          refine eget_map (show ([p0, p1, p2, p3, p4, p5] : List Pl)[4]? = some p4 from rfl) ?_
                                                          refine sh ?_
                                                          refine ICall.pure h.n153.o153.hb (pcheck_c h.n153 p4 (by have := s4.n; omega)) rfl ?_
                                                          refine sh ?_
                                                          refine cS (fun e4 => ?_) (fun e4 => ?_)
                                                          · rw [if_neg (fun hh => hh e0), if_neg (fun hh => hh e1), if_neg (fun hh => hh e2), if_neg (fun hh => hh e3), if_pos e4] at hq
                                                            subst hq
                                                            refine sh ?_
                                                            exact rT
                                                          · skip
                                                            refine sh ?_
                                                            refine ILoop.one 100 ?_
                                                            refine sh ?_
                                                            refine acnd_t (by rfl) ?_
                                                            refine sh ?_
                                                            refine eget_map (show ([p0, p1, p2, p3, p4, p5] : List Pl)[5]? = some p5 from rfl) ?_
                                                            refine sh ?_
                                                            refine ICall.pure h.n153.o153.hb (pcheck_c h.n153 p5 (by have := s5.n; omega)) rfl ?_
                                                            refine sh ?_
                                                            refine cS (fun e5 => ?_) (fun e5 => ?_)
                                                            · rw [if_neg (fun hh => hh e0), if_neg (fun hh => hh e1), if_neg (fun hh => hh e2), if_neg (fun hh => hh e3), if_neg (fun hh => hh e4), if_pos e5] at hq
                                                              subst hq
                                                              refine sh ?_
                                                              exact rT
                                                            · skip
                                                              refine sh ?_
                                                              refine ILoop.one 100 ?_
                                                              refine sh ?_
                                                              refine acnd_f (by rfl) ?_
                                                              rw [if_neg (fun hh => hh e0), if_neg (fun hh => hh e1), if_neg (fun hh => hh e2), if_neg (fun hh => hh e3), if_neg (fun hh => hh e4), if_neg (fun hh => hh e5)] at hq
                                                              subst hq
                                                              refine sh ?_
                                                              refine eget_map (show ([p0, p1, p2, p3, p4, p5] : List Pl)[0]? = some p0 from rfl) ?_
                                                              refine sh ?_
                                                              refine eget_map (show ([p0, p1, p2, p3, p4, p5] : List Pl)[0]? = some p0 from rfl) ?_
                                                              refine sh ?_
                                                              refine eget_map (show ([p0, p1, p2, p3, p4, p5] : List Pl)[0]? = some p0 from rfl) ?_
                                                              refine sh ?_
                                                              refine ICall.pure h.n384.o384.hb (threes30_c h.n384 p0.data s0.d) rfl ?_
                                                              refine sh ?_
                                                              refine cR false [0] (copied_c h.n383 [p0, p1, p2, p3, p4, p5] 1 p1 (show ([p0, p1, p2, p3, p4, p5] : List Pl)[1]? = some p1 from rfl) s1) ?_
                                                              repeat ((intro _u; clear _u); first | refine eK ?_ | refine eP ?_)
                                                              first | refine ⟨⟨[], rfl, rfl⟩, ?_⟩ | refine ⟨⟨[_], rfl, rfl⟩, ?_⟩ | refine ⟨⟨[_, _], rfl, rfl⟩, ?_⟩
                                                              refine sh ?_
                                                              refine cR false [0] (copied_c h.n383 [p0, p1, p2, p3, p4, p5] 2 p2 (show ([p0, p1, p2, p3, p4, p5] : List Pl)[2]? = some p2 from rfl) s2) ?_
                                                              repeat ((intro _u; clear _u); first | refine eK ?_ | refine eP ?_)
                                                              first | refine ⟨⟨[], rfl, rfl⟩, ?_⟩ | refine ⟨⟨[_], rfl, rfl⟩, ?_⟩ | refine ⟨⟨[_, _], rfl, rfl⟩, ?_⟩
                                                              refine sh ?_
                                                              refine eget_map (show ([p0, p1, p2, p3, p4, p5] : List Pl)[3]? = some p3 from rfl) ?_
                                                              refine sh ?_
                                                              refine ICall.pure h.n384.o384.hb (threes30_c h.n384 p3.data s3.d) rfl ?_
                                                              refine sh ?_
                                                              refine cR false [0] (copied_c h.n383 [p0, p1, p2, p3, p4, p5] 4 p4 (show ([p0, p1, p2, p3, p4, p5] : List Pl)[4]? = some p4 from rfl) s4) ?_
                                                              repeat ((intro _u; clear _u); first | refine eK ?_ | refine eP ?_)
                                                              first | refine ⟨⟨[], rfl, rfl⟩, ?_⟩ | refine ⟨⟨[_], rfl, rfl⟩, ?_⟩ | refine ⟨⟨[_, _], rfl, rfl⟩, ?_⟩
                                                              refine sh ?_
                                                              refine cR false [0] (copied_c h.n383 [p0, p1, p2, p3, p4, p5] 5 p5 (show ([p0, p1, p2, p3, p4, p5] : List Pl)[5]? = some p5 from rfl) s5) ?_
                                                              repeat ((intro _u; clear _u); first | refine eK ?_ | refine eP ?_)
                                                              first | refine ⟨⟨[], rfl, rfl⟩, ?_⟩ | refine ⟨⟨[_], rfl, rfl⟩, ?_⟩ | refine ⟨⟨[_, _], rfl, rfl⟩, ?_⟩
                                                              refine sh ?_
                                                              exact rT
set_option maxHeartbeats 4000000 in
theorem rpimg_c {R : Env} (h : N370 R) (l : List Pl) (hl : l.length ≤ 100) (hs : ∀ p ∈ l, SmP p) : R.Pc 370 [.isl 5 (slP l)] (.tup [.agg (pimg l).1.row, .int .i64 (pimg l).2]) :=
  h.o370.enter 100 rfl fun X bb hfit hp => by
    have e6 : (slP l).length = l.length := by simp [slP]
    refine sh ?_
    refine cS (fun hn => ?_) (fun hn => ?_)
    · rw [pimg_len (by omega)]
      refine sh ?_
      exact rT
    · obtain ⟨p0, p1, p2, p3, p4, p5, rfl⟩ := six (l := l) (by omega)
      clear e6 hn hl
      have s0 := hs p0 (by simp)
      have s1 := hs p1 (by simp)
      have s2 := hs p2 (by simp)
      have s3 := hs p3 (by simp)
      have s4 := hs p4 (by simp)
      have s5 := hs p5 (by simp)
      have hq : ∃ q, pimg [p0, p1, p2, p3, p4, p5] = q := ⟨_, rfl⟩
      obtain ⟨q, hq⟩ := hq
      rw [hq]
      refine sh ?_
      refine ILoop.one 100 ?_
      refine sh ?_
      refine acnd_t (by decide) ?_
      refine sh ?_
      refine eget_map (show ([p0, p1, p2, p3, p4, p5] : List Pl)[0]? = some p0 from rfl) ?_
      refine sh ?_
      refine ICall.pure h.n161.o161.hb (names_c h.n161) rfl ?_
      refine sh ?_
      refine eget_map (show ([nmB, nmA, nmD, nmN, nmS, nmL] : List (List UInt8))[0]? = some _ from rfl) ?_
      refine sh ?_
      refine cS (fun a0 => ?_) (fun a0 => ?_)
      · rw [show pimg [p0, p1, p2, p3, p4, p5] = (zIm, 5) from if_pos (by simp [heads, h1, a0])] at hq
        subst hq
        refine sh ?_
        exact rT
      · refine sh ?_
        refine eget_map (show ([p0, p1, p2, p3, p4, p5] : List Pl)[0]? = some p0 from rfl) ?_
        refine sh ?_
        refine ICall.pure h.n160.o160.hb (deeps_c h.n160) rfl ?_
        refine sh ?_
        refine eget_map (show ([3, 1, 1, 3, 1, 1] : List Int)[0]? = some _ from rfl) ?_
        refine sh ?_
        refine cS (fun b0 => ?_) (fun b0 => ?_)
        · rw [show pimg [p0, p1, p2, p3, p4, p5] = (zIm, 5) from if_pos (by simp [heads, h1, b0])] at hq
          subst hq
          refine sh ?_
          exact rT
        · refine sh ?_
          refine eget_map (show ([p0, p1, p2, p3, p4, p5] : List Pl)[0]? = some p0 from rfl) ?_
          refine sh ?_
          refine eget_map (show ([p0, p1, p2, p3, p4, p5] : List Pl)[0]? = some p0 from rfl) ?_
          refine sh ?_
          refine acnd_f (by simp) ?_
          refine sh ?_
          refine eget_map (show ([p0, p1, p2, p3, p4, p5] : List Pl)[0]? = some p0 from rfl) ?_
          refine sh ?_
          refine eget_map (show ([p0, p1, p2, p3, p4, p5] : List Pl)[0]? = some p0 from rfl) ?_
          refine sh ?_
          refine acnd_f (by simp) ?_
          refine sh ?_
          refine ILoop.one 100 ?_
          refine sh ?_
          refine acnd_t (by decide) ?_
          refine sh ?_
          refine eget_map (show ([p0, p1, p2, p3, p4, p5] : List Pl)[1]? = some p1 from rfl) ?_
          refine sh ?_
          refine ICall.pure h.n161.o161.hb (names_c h.n161) rfl ?_
          refine sh ?_
          refine eget_map (show ([nmB, nmA, nmD, nmN, nmS, nmL] : List (List UInt8))[1]? = some _ from rfl) ?_
          refine sh ?_
          refine cS (fun a1 => ?_) (fun a1 => ?_)
          · rw [show pimg [p0, p1, p2, p3, p4, p5] = (zIm, 5) from if_pos (by simp [heads, h1, a1])] at hq
            subst hq
            refine sh ?_
            exact rT
          · refine sh ?_
            refine eget_map (show ([p0, p1, p2, p3, p4, p5] : List Pl)[1]? = some p1 from rfl) ?_
            refine sh ?_
            refine ICall.pure h.n160.o160.hb (deeps_c h.n160) rfl ?_
            refine sh ?_
            refine eget_map (show ([3, 1, 1, 3, 1, 1] : List Int)[1]? = some _ from rfl) ?_
            refine sh ?_
            refine cS (fun b1 => ?_) (fun b1 => ?_)
            · rw [show pimg [p0, p1, p2, p3, p4, p5] = (zIm, 5) from if_pos (by simp [heads, h1, b1])] at hq
              subst hq
              refine sh ?_
              exact rT
            · refine sh ?_
              refine eget_map (show ([p0, p1, p2, p3, p4, p5] : List Pl)[1]? = some p1 from rfl) ?_
              refine sh ?_
              refine eget_map (show ([p0, p1, p2, p3, p4, p5] : List Pl)[0]? = some p0 from rfl) ?_
              refine sh ?_
              refine cS (fun c1 => ?_) (fun c1 => ?_)
              · rw [show pimg [p0, p1, p2, p3, p4, p5] = (zIm, 5) from if_pos (by simp [heads, h1, c1])] at hq
                subst hq
                refine sh ?_
                exact rT
              · refine sh ?_
                refine eget_map (show ([p0, p1, p2, p3, p4, p5] : List Pl)[1]? = some p1 from rfl) ?_
                refine sh ?_
                refine eget_map (show ([p0, p1, p2, p3, p4, p5] : List Pl)[0]? = some p0 from rfl) ?_
                refine sh ?_
                refine cS (fun d1 => ?_) (fun d1 => ?_)
                · rw [show pimg [p0, p1, p2, p3, p4, p5] = (zIm, 5) from if_pos (by simp [heads, h1, d1])] at hq
                  subst hq
                  refine sh ?_
                  exact rT
                · skip
                  refine sh ?_
                  refine ILoop.one 100 ?_
                  refine sh ?_
                  refine acnd_t (by decide) ?_
                  refine sh ?_
                  refine eget_map (show ([p0, p1, p2, p3, p4, p5] : List Pl)[2]? = some p2 from rfl) ?_
                  refine sh ?_
                  refine ICall.pure h.n161.o161.hb (names_c h.n161) rfl ?_
                  refine sh ?_
                  refine eget_map (show ([nmB, nmA, nmD, nmN, nmS, nmL] : List (List UInt8))[2]? = some _ from rfl) ?_
                  refine sh ?_
                  refine cS (fun a2 => ?_) (fun a2 => ?_)
                  · rw [show pimg [p0, p1, p2, p3, p4, p5] = (zIm, 5) from if_pos (by simp [heads, h1, a2])] at hq
                    subst hq
                    refine sh ?_
                    exact rT
                  · refine sh ?_
                    refine eget_map (show ([p0, p1, p2, p3, p4, p5] : List Pl)[2]? = some p2 from rfl) ?_
                    refine sh ?_
                    refine ICall.pure h.n160.o160.hb (deeps_c h.n160) rfl ?_
                    refine sh ?_
                    refine eget_map (show ([3, 1, 1, 3, 1, 1] : List Int)[2]? = some _ from rfl) ?_
                    refine sh ?_
                    refine cS (fun b2 => ?_) (fun b2 => ?_)
                    · rw [show pimg [p0, p1, p2, p3, p4, p5] = (zIm, 5) from if_pos (by simp [heads, h1, b2])] at hq
                      subst hq
                      refine sh ?_
                      exact rT
                    · refine sh ?_
                      refine eget_map (show ([p0, p1, p2, p3, p4, p5] : List Pl)[2]? = some p2 from rfl) ?_
                      refine sh ?_
                      refine eget_map (show ([p0, p1, p2, p3, p4, p5] : List Pl)[0]? = some p0 from rfl) ?_
                      refine sh ?_
                      refine cS (fun c2 => ?_) (fun c2 => ?_)
                      · rw [show pimg [p0, p1, p2, p3, p4, p5] = (zIm, 5) from if_pos (by simp [heads, h1, c2])] at hq
                        subst hq
                        refine sh ?_
                        exact rT
                      · refine sh ?_
                        refine eget_map (show ([p0, p1, p2, p3, p4, p5] : List Pl)[2]? = some p2 from rfl) ?_
                        refine sh ?_
                        refine eget_map (show ([p0, p1, p2, p3, p4, p5] : List Pl)[0]? = some p0 from rfl) ?_
                        refine sh ?_
                        refine cS (fun d2 => ?_) (fun d2 => ?_)
                        · rw [show pimg [p0, p1, p2, p3, p4, p5] = (zIm, 5) from if_pos (by simp [heads, h1, d2])] at hq
                          subst hq
                          refine sh ?_
                          exact rT
                        · skip
                          refine sh ?_
                          refine ILoop.one 100 ?_
                          refine sh ?_
                          refine acnd_t (by decide) ?_
                          refine sh ?_
                          refine eget_map (show ([p0, p1, p2, p3, p4, p5] : List Pl)[3]? = some p3 from rfl) ?_
                          refine sh ?_
                          refine ICall.pure h.n161.o161.hb (names_c h.n161) rfl ?_
                          refine sh ?_
                          refine eget_map (show ([nmB, nmA, nmD, nmN, nmS, nmL] : List (List UInt8))[3]? = some _ from rfl) ?_
                          refine sh ?_
                          refine cS (fun a3 => ?_) (fun a3 => ?_)
                          · rw [show pimg [p0, p1, p2, p3, p4, p5] = (zIm, 5) from if_pos (by simp [heads, h1, a3])] at hq
                            subst hq
                            refine sh ?_
                            exact rT
                          · refine sh ?_
                            refine eget_map (show ([p0, p1, p2, p3, p4, p5] : List Pl)[3]? = some p3 from rfl) ?_
                            refine sh ?_
                            refine ICall.pure h.n160.o160.hb (deeps_c h.n160) rfl ?_
                            refine sh ?_
                            refine eget_map (show ([3, 1, 1, 3, 1, 1] : List Int)[3]? = some _ from rfl) ?_
                            refine sh ?_
                            refine cS (fun b3 => ?_) (fun b3 => ?_)
                            · rw [show pimg [p0, p1, p2, p3, p4, p5] = (zIm, 5) from if_pos (by simp [heads, h1, b3])] at hq
                              subst hq
                              refine sh ?_
                              exact rT
                            · refine sh ?_
                              refine eget_map (show ([p0, p1, p2, p3, p4, p5] : List Pl)[3]? = some p3 from rfl) ?_
                              refine sh ?_
                              refine eget_map (show ([p0, p1, p2, p3, p4, p5] : List Pl)[0]? = some p0 from rfl) ?_
                              refine sh ?_
                              refine cS (fun c3 => ?_) (fun c3 => ?_)
                              · rw [show pimg [p0, p1, p2, p3, p4, p5] = (zIm, 5) from if_pos (by simp [heads, h1, c3])] at hq
                                subst hq
                                refine sh ?_
                                exact rT
                              · refine sh ?_
                                refine eget_map (show ([p0, p1, p2, p3, p4, p5] : List Pl)[3]? = some p3 from rfl) ?_
                                refine sh ?_
                                refine eget_map (show ([p0, p1, p2, p3, p4, p5] : List Pl)[0]? = some p0 from rfl) ?_
                                refine sh ?_
                                refine cS (fun d3 => ?_) (fun d3 => ?_)
                                · rw [show pimg [p0, p1, p2, p3, p4, p5] = (zIm, 5) from if_pos (by simp [heads, h1, d3])] at hq
                                  subst hq
                                  refine sh ?_
                                  exact rT
                                · skip
                                  refine sh ?_
                                  refine ILoop.one 100 ?_
                                  refine sh ?_
                                  refine acnd_t (by decide) ?_
                                  refine sh ?_
                                  refine eget_map (show ([p0, p1, p2, p3, p4, p5] : List Pl)[4]? = some p4 from rfl) ?_
                                  refine sh ?_
                                  refine ICall.pure h.n161.o161.hb (names_c h.n161) rfl ?_
                                  refine sh ?_
                                  refine eget_map (show ([nmB, nmA, nmD, nmN, nmS, nmL] : List (List UInt8))[4]? = some _ from rfl) ?_
                                  refine sh ?_
                                  refine cS (fun a4 => ?_) (fun a4 => ?_)
                                  · rw [show pimg [p0, p1, p2, p3, p4, p5] = (zIm, 5) from if_pos (by simp [heads, h1, a4])] at hq
                                    subst hq
                                    refine sh ?_
                                    exact rT
                                  · refine sh ?_
                                    refine eget_map (show ([p0, p1, p2, p3, p4, p5] : List Pl)[4]? = some p4 from rfl) ?_
                                    refine sh ?_
                                    refine ICall.pure h.n160.o160.hb (deeps_c h.n160) rfl ?_
                                    refine sh ?_
                                    refine eget_map (show ([3, 1, 1, 3, 1, 1] : List Int)[4]? = some _ from rfl) ?_
                                    refine sh ?_
                                    refine cS (fun b4 => ?_) (fun b4 => ?_)
                                    · rw [show pimg [p0, p1, p2, p3, p4, p5] = (zIm, 5) from if_pos (by simp [heads, h1, b4])] at hq
                                      subst hq
                                      refine sh ?_
                                      exact rT
                                    · refine sh ?_
                                      refine eget_map (show ([p0, p1, p2, p3, p4, p5] : List Pl)[4]? = some p4 from rfl) ?_
                                      refine sh ?_
                                      refine eget_map (show ([p0, p1, p2, p3, p4, p5] : List Pl)[0]? = some p0 from rfl) ?_
                                      refine sh ?_
                                      refine cS (fun c4 => ?_) (fun c4 => ?_)
                                      · rw [show pimg [p0, p1, p2, p3, p4, p5] = (zIm, 5) from if_pos (by simp [heads, h1, c4])] at hq
                                        subst hq
                                        refine sh ?_
                                        exact rT
                                      · refine sh ?_
                                        refine eget_map (show ([p0, p1, p2, p3, p4, p5] : List Pl)[4]? = some p4 from rfl) ?_
                                        refine sh ?_
                                        refine eget_map (show ([p0, p1, p2, p3, p4, p5] : List Pl)[0]? = some p0 from rfl) ?_
                                        refine sh ?_
                                        refine cS (fun d4 => ?_) (fun d4 => ?_)
                                        · rw [show pimg [p0, p1, p2, p3, p4, p5] = (zIm, 5) from if_pos (by simp [heads, h1, d4])] at hq
                                          subst hq
                                          refine sh ?_
                                          exact rT
                                        · skip
                                          refine sh ?_
                                          refine ILoop.one 100 ?_
                                          refine sh ?_
                                          refine acnd_t (by decide) ?_
                                          refine sh ?_
                                          refine eget_map (show ([p0, p1, p2, p3, p4, p5] : List Pl)[5]? = some p5 from rfl) ?_
                                          refine sh ?_
                                          refine ICall.pure h.n161.o161.hb (names_c h.n161) rfl ?_
                                          refine sh ?_
                                          refine eget_map (show ([nmB, nmA, nmD, nmN, nmS, nmL] : List (List UInt8))[5]? = some _ from rfl) ?_
                                          refine sh ?_
                                          refine cS (fun a5 => ?_) (fun a5 => ?_)
                                          · rw [show pimg [p0, p1, p2, p3, p4, p5] = (zIm, 5) from if_pos (by simp [heads, h1, a5])] at hq
                                            subst hq
                                            refine sh ?_
                                            exact rT
                                          · refine sh ?_
                                            refine eget_map (show ([p0, p1, p2, p3, p4, p5] : List Pl)[5]? = some p5 from rfl) ?_
                                            refine sh ?_
                                            refine ICall.pure h.n160.o160.hb (deeps_c h.n160) rfl ?_
                                            refine sh ?_
                                            refine eget_map (show ([3, 1, 1, 3, 1, 1] : List Int)[5]? = some _ from rfl) ?_
                                            refine sh ?_
                                            refine cS (fun b5 => ?_) (fun b5 => ?_)
                                            · rw [show pimg [p0, p1, p2, p3, p4, p5] = (zIm, 5) from if_pos (by simp [heads, h1, b5])] at hq
                                              subst hq
                                              refine sh ?_
                                              exact rT
                                            · refine sh ?_
                                              refine eget_map (show ([p0, p1, p2, p3, p4, p5] : List Pl)[5]? = some p5 from rfl) ?_
                                              refine sh ?_
                                              refine eget_map (show ([p0, p1, p2, p3, p4, p5] : List Pl)[0]? = some p0 from rfl) ?_
                                              refine sh ?_
                                              refine cS (fun c5 => ?_) (fun c5 => ?_)
                                              · rw [show pimg [p0, p1, p2, p3, p4, p5] = (zIm, 5) from if_pos (by simp [heads, h1, c5])] at hq
                                                subst hq
                                                refine sh ?_
                                                exact rT
                                              · refine sh ?_
                                                refine eget_map (show ([p0, p1, p2, p3, p4, p5] : List Pl)[5]? = some p5 from rfl) ?_
                                                refine sh ?_
                                                refine eget_map (show ([p0, p1, p2, p3, p4, p5] : List Pl)[0]? = some p0 from rfl) ?_
                                                refine sh ?_
                                                refine cS (fun d5 => ?_) (fun d5 => ?_)
                                                · rw [show pimg [p0, p1, p2, p3, p4, p5] = (zIm, 5) from if_pos (by simp [heads, h1, d5])] at hq
                                                  subst hq
                                                  refine sh ?_
                                                  exact rT
                                                · skip
                                                  refine sh ?_
                                                  refine ILoop.one 100 ?_
                                                  refine sh ?_
                                                  refine acnd_f (by decide) ?_
                                                  have hh : heads p0 p1 p2 p3 p4 p5 = true := by simp [heads, h1, a0, b0, a1, b1, c1, d1, a2, b2, c2, d2, a3, b3, c3, d3, a4, b4, c4, d4, a5, b5, c5, d5]
                                                  replace hq : pimg6 p0 p1 p2 p3 p4 p5 = q := hq
                                                  rw [pimg6, if_neg (by simp [hh])] at hq
                                                  refine sh ?_
                                                  refine ILoop.one 100 ?_
                                                  refine sh ?_
                                                  refine acnd_t (by decide) ?_
                                                  refine sh ?_
                                                  refine eget_map (show ([p0, p1, p2, p3, p4, p5] : List Pl)[0]? = some p0 from rfl) ?_
                                                  refine sh ?_
                                                  refine ICall.pure h.n162.o162.hb (rpcheck_c h.n162 p0 (by have := s0.n; omega)) rfl ?_
                                                  refine sh ?_
                                                  refine cS (fun e0 => ?_) (fun e0 => ?_)
                                                  · rw [if_pos e0] at hq
                                                    subst hq
                                                    refine sh ?_
                                                    exact rT
                                                  · skip
                                                    refine sh ?_
                                                    refine ILoop.one 100 ?_
                                                    refine sh ?_
                                                    refine acnd_t (by decide) ?_
                                                    refine sh ?_
                                                    refine eget_map (show ([p0, p1, p2, p3, p4, p5] : List Pl)[1]? = some p1 from rfl) ?_
                                                    refine sh ?_
                                                    refine ICall.pure h.n162.o162.hb (rpcheck_c h.n162 p1 (by have := s1.n; omega)) rfl ?_
                                                    refine sh ?_
                                                    refine cS (fun e1 => ?_) (fun e1 => ?_)
                                                    · rw [if_neg (fun hh => hh e0), if_pos e1] at hq
                                                      subst hq
                                                      refine sh ?_
                                                      exact rT
                                                    · skip
                                                      refine sh ?_
                                                      refine ILoop.one 100 ?_
                                                      refine sh ?_
                                                      refine acnd_t (by decide) ?_
                                                      refine sh ?_
                                                      refine eget_map (show ([p0, p1, p2, p3, p4, p5] : List Pl)[2]? = some p2 from rfl) ?_
                                                      refine sh ?_
                                                      refine ICall.pure h.n162.o162.hb (rpcheck_c h.n162 p2 (by have := s2.n; omega)) rfl ?_
                                                      refine sh ?_
                                                      refine cS (fun e2 => ?_) (fun e2 => ?_)
                                                      · rw [if_neg (fun hh => hh e0), if_neg (fun hh => hh e1), if_pos e2] at hq
                                                        subst hq
                                                        refine sh ?_
                                                        exact rT
                                                      · skip
                                                        refine sh ?_
                                                        refine ILoop.one 100 ?_
                                                        refine sh ?_
                                                        refine acnd_t (by decide) ?_
                                                        refine sh ?_
                                                        refine eget_map (show ([p0, p1, p2, p3, p4, p5] : List Pl)[3]? = some p3 from rfl) ?_
                                                        refine sh ?_
                                                        refine ICall.pure h.n162.o162.hb (rpcheck_c h.n162 p3 (by have := s3.n; omega)) rfl ?_
                                                        refine sh ?_
                                                        refine cS (fun e3 => ?_) (fun e3 => ?_)
                                                        · rw [if_neg (fun hh => hh e0), if_neg (fun hh => hh e1), if_neg (fun hh => hh e2), if_pos e3] at hq
                                                          subst hq
                                                          refine sh ?_
                                                          exact rT
                                                        · skip
                                                          refine sh ?_
                                                          refine ILoop.one 100 ?_
                                                          refine sh ?_
                                                          refine acnd_t (by decide) ?_
                                                          refine sh ?_
                                                          refine eget_map (show ([p0, p1, p2, p3, p4, p5] : List Pl)[4]? = some p4 from rfl) ?_
                                                          refine sh ?_
                                                          refine ICall.pure h.n162.o162.hb (rpcheck_c h.n162 p4 (by have := s4.n; omega)) rfl ?_
                                                          refine sh ?_
                                                          refine cS (fun e4 => ?_) (fun e4 => ?_)
                                                          · rw [if_neg (fun hh => hh e0), if_neg (fun hh => hh e1), if_neg (fun hh => hh e2), if_neg (fun hh => hh e3), if_pos e4] at hq
                                                            subst hq
                                                            refine sh ?_
                                                            exact rT
                                                          · skip
                                                            refine sh ?_
                                                            refine ILoop.one 100 ?_
                                                            refine sh ?_
                                                            refine acnd_t (by decide) ?_
                                                            refine sh ?_
                                                            refine eget_map (show ([p0, p1, p2, p3, p4, p5] : List Pl)[5]? = some p5 from rfl) ?_
                                                            refine sh ?_
                                                            refine ICall.pure h.n162.o162.hb (rpcheck_c h.n162 p5 (by have := s5.n; omega)) rfl ?_
                                                            refine sh ?_
                                                            refine cS (fun e5 => ?_) (fun e5 => ?_)
                                                            · rw [if_neg (fun hh => hh e0), if_neg (fun hh => hh e1), if_neg (fun hh => hh e2), if_neg (fun hh => hh e3), if_neg (fun hh => hh e4), if_pos e5] at hq
                                                              subst hq
                                                              refine sh ?_
                                                              exact rT
                                                            · skip
                                                              refine sh ?_
                                                              refine ILoop.one 100 ?_
                                                              refine sh ?_
                                                              refine acnd_f (by decide) ?_
                                                              rw [if_neg (fun hh => hh e0), if_neg (fun hh => hh e1), if_neg (fun hh => hh e2), if_neg (fun hh => hh e3), if_neg (fun hh => hh e4), if_neg (fun hh => hh e5)] at hq
                                                              subst hq
                                                              refine sh ?_
                                                              refine eget_map (show ([p0, p1, p2, p3, p4, p5] : List Pl)[0]? = some p0 from rfl) ?_
                                                              refine sh ?_
                                                              refine eget_map (show ([p0, p1, p2, p3, p4, p5] : List Pl)[0]? = some p0 from rfl) ?_
                                                              refine sh ?_
                                                              refine eget_map (show ([p0, p1, p2, p3, p4, p5] : List Pl)[0]? = some p0 from rfl) ?_
                                                              refine sh ?_
                                                              refine ICall.pure h.n385.o385.hb (rthrees30_c h.n385 p0.data s0.d) rfl ?_
                                                              refine sh ?_
                                                              refine eget_map (show ([p0, p1, p2, p3, p4, p5] : List Pl)[1]? = some p1 from rfl) ?_
                                                              refine sh ?_
                                                              refine eget_map (show ([p0, p1, p2, p3, p4, p5] : List Pl)[2]? = some p2 from rfl) ?_
                                                              refine sh ?_
                                                              refine eget_map (show ([p0, p1, p2, p3, p4, p5] : List Pl)[3]? = some p3 from rfl) ?_
                                                              refine sh ?_
                                                              refine ICall.pure h.n385.o385.hb (rthrees30_c h.n385 p3.data s3.d) rfl ?_
                                                              refine sh ?_
                                                              refine eget_map (show ([p0, p1, p2, p3, p4, p5] : List Pl)[4]? = some p4 from rfl) ?_
                                                              refine sh ?_
                                                              refine eget_map (show ([p0, p1, p2, p3, p4, p5] : List Pl)[5]? = some p5 from rfl) ?_
                                                              refine sh ?_
                                                              exact rT
end Go.UM

namespace Go.UM
open Go.AM
set_option pp.maxSteps 700
set_option maxRecDepth 4000
def Pl.few (p : Pl) : Pl := { p with name := p.name.take 20, data := p.data.take 100 }
theorem fewp_c {R : Env} (h : N364 R) (p : Pl) : R.Pc 364 [.agg p.row] (.agg p.few.row) :=
  h.o364.enter 60 rfl fun X bb hfit hp => by
    refine sh ?_
    refine aSb ?_
    rw [take_cap]
    refine sh ?_
    refine aSb ?_
    rw [take_cap]
    refine sh ?_
    exact rT
def P30 : Pl := ⟨1, 1, 1, [65], [258]⟩
theorem works30_c {R : Env} (h : N367 R) : R.Pc 367 [] (.bool true) :=
  h.o367.enter 100 rfl fun X bb hfit hp => by
    have c1 := pencode_c h.n365 P30 (by decide) (by decide)
    rw [show penc P30 = ([80, 55, 10, 87, 73, 68, 84, 72, 32, 49, 10, 72, 69, 73, 71, 72, 84, 32, 49, 10, 68, 69, 80, 84, 72, 32, 49, 10, 77, 65, 88, 86, 65, 76, 32, 54, 53, 53, 51, 53, 10, 84, 85, 80, 76, 84, 89, 80, 69, 32, 65, 10, 69, 78, 68, 72, 68, 82, 10, 1, 2], 0) by decide +kernel] at c1
    refine sh ?_
    refine ICall.let [0] rfl hp rfl ?_
    repeat ((intro _u; clear _u); first | refine eZ ?_ | refine eZ ?_ (by simp; omega) | refine FrzC.drop ?_)
    refine sh ?_
    refine ICall.pure h.n365.o365.hb c1 rfl ?_
    refine sh ?_
    refine acnd_t (by decide) ?_
    refine sh ?_
    exact rT
end Go.UM

namespace Go.UM
open Go.AM
set_option pp.maxSteps 700
set_option maxRecDepth 4000
def Im.fewI (i : Im) : Im := ⟨i.w, i.h, i.be.take 20, i.al.take 20, i.de.take 20, i.no.take 20, i.as.take 20, i.la.take 20⟩
theorem cap3I (b : List T3) (m : Int) : (slc3 b).take (min (b.length : Int) m).toNat = slc3 (b.take m.toNat) := by
  rw [← take_cap b m]; simp [slc3, List.map_take]
theorem fewI_few (i : Im) : i.fewI.Few := ⟨by simp [Im.fewI]; omega, by simp [Im.fewI]; omega, by simp [Im.fewI]; omega, by simp [Im.fewI]; omega, by simp [Im.fewI]; omega, by simp [Im.fewI]; omega⟩
theorem fewI_c {R : Env} (h : N135 R) (i : Im) : R.Pc 135 [.agg i.row] (.agg i.fewI.row) :=
  h.o135.enter 60 rfl fun X bb hfit hp => by
    refine sh ?_
    refine asub_eq (by exact cap3I i.be 20) ?_
    refine sh ?_
    refine asub_eq (by exact cap3I i.no 20) ?_
    refine sh ?_
    refine asub_eq (by exact capK .i64 i.al 20) ?_
    refine sh ?_
    refine asub_eq (by exact capK .i64 i.de 20) ?_
    refine sh ?_
    refine asub_eq (by exact capK .i64 i.as 20) ?_
    refine sh ?_
    refine asub_eq (by exact capK .i64 i.la 20) ?_
    refine sh ?_
    exact rT
theorem th144_c {R : Env} (h : N144 R) (l : List T3) (hl : l.length ≤ 10000) : R.Pc 144 [.isl 3 (slc3 l), .isl 3 (slc3 l)] (.bool true) :=
  h.o144.enter 60 rfl fun X bb hfit hp => by
    refine sh ?_
    refine acnd_f (by simp) ?_
    refine sh ?_
    refine lPa 60 (fun k : Nat => k ≤ l.length) (fun k => ⟨[(0, .isl 3 (slc3 l)), (1, .isl 3 (slc3 l)), (5, .int .i64 k)], [], 0⟩) (fun k => l.length - k) (0) ?_ ?_
    · exact Nat.zero_le _
    · intro k hk
      dsimp only
      refine sh ?_
      refine cS (fun h1 => ?_) (fun h1 => ?_)
      · obtain ⟨x, hx⟩ : ∃ u_, l[k]? = some u_ := ⟨_, List.getElem?_eq_getElem (by first | omega | (simp <;> omega))⟩
        refine sh ?_
        refine eget_map hx ?_
        refine sh ?_
        refine eget_map hx ?_
        refine sh ?_
        refine acnd_f (by simp) ?_
        refine sh ?_
        refine nXa (k + 1) ?_ ?_
        · omega
        · omega
      · refine sh ?_
        exact rT
theorem in145_c {R : Env} (h : N145 R) (l : List Int) (hl : l.length ≤ 30000) : R.Pc 145 [.isl 1 (slcK .i64 l), .isl 1 (slcK .i64 l)] (.bool true) :=
  h.o145.enter 60 rfl fun X bb hfit hp => by
    refine sh ?_
    refine acnd_f (by simp) ?_
    refine sh ?_
    refine lPa 60 (fun k : Nat => k ≤ l.length) (fun k => ⟨[(0, .isl 1 (slcK .i64 l)), (1, .isl 1 (slcK .i64 l)), (5, .int .i64 k)], [], 0⟩) (fun k => l.length - k) (0) ?_ ?_
    · exact Nat.zero_le _
    · intro k hk
      dsimp only
      refine sh ?_
      refine cS (fun h1 => ?_) (fun h1 => ?_)
      · obtain ⟨x, hx⟩ : ∃ u_, l[k]? = some u_ := ⟨_, List.getElem?_eq_getElem (by first | omega | (simp <;> omega))⟩
        refine sh ?_
        refine eget_map hx ?_
        refine sh ?_
        refine eget_map hx ?_
        refine sh ?_
        refine acnd_f (by simp) ?_
        refine sh ?_
        refine nXa (k + 1) ?_ ?_
        · omega
        · omega
      · refine sh ?_
        exact rT
theorem sameI_c {R : Env} (h : N117 R) (i : Im) (s : i.Few) : R.Pc 117 [.agg i.row, .agg i.row] (.bool true) :=
  h.o117.enter 60 rfl fun X bb hfit hp => by
    obtain ⟨s0, s1, s2, s3, s4, s5⟩ := s
    refine sh ?_
    refine acnd_t (by simp) ?_
    refine sh ?_
    refine acnd_t (by simp) ?_
    refine sh ?_
    refine ICall.pure h.n144.o144.hb (th144_c h.n144 i.be (by omega)) rfl ?_
    refine sh ?_
    refine ICall.pure h.n144.o144.hb (th144_c h.n144 i.no (by omega)) rfl ?_
    refine sh ?_
    refine ICall.pure h.n145.o145.hb (in145_c h.n145 i.al (by omega)) rfl ?_
    refine sh ?_
    refine ICall.pure h.n145.o145.hb (in145_c h.n145 i.de (by omega)) rfl ?_
    refine sh ?_
    refine ICall.pure h.n145.o145.hb (in145_c h.n145 i.as (by omega)) rfl ?_
    refine sh ?_
    refine ICall.pure h.n145.o145.hb (in145_c h.n145 i.la (by omega)) rfl ?_
    refine sh ?_
    exact rT
theorem sameP_c {R : Env} (h : N175 R) (p : Pl) (hl : p.data.length ≤ 30000) : R.Pc 175 [.agg p.row, .agg p.row] (.bool true) :=
  h.o175.enter 60 rfl fun X bb hfit hp => by
    refine sh ?_
    refine acnd_t (by simp) ?_
    refine sh ?_
    refine acnd_t (by simp) ?_
    refine sh ?_
    refine acnd_t (by simp) ?_
    refine sh ?_
    refine acnd_t (by simp) ?_
    refine sh ?_
    refine ICall.pure h.n145.o145.hb (in145_c h.n145 p.data hl) rfl ?_
    refine sh ?_
    exact rT
theorem SmP.few (p : Pl) : SmP p.few := ⟨by simp [Pl.few]; omega, by simp [Pl.few]; omega⟩
theorem thr_len (l : List Int) : (thr l).length = l.length / 3 := by simp [thr]
theorem pimg_few {l : List Pl} (h : ∀ p ∈ l, p.data.length ≤ 100) : (pimg l).1.Few := by
  have z : zIm.Few := ⟨by simp [zIm], by simp [zIm], by simp [zIm], by simp [zIm], by simp [zIm], by simp [zIm]⟩
  by_cases h6 : l.length = 6
  · obtain ⟨p0, p1, p2, p3, p4, p5, rfl⟩ := six h6
    have e0 := h p0 (by simp)
    have e1 := h p1 (by simp)
    have e2 := h p2 (by simp)
    have e3 := h p3 (by simp)
    have e4 := h p4 (by simp)
    have e5 := h p5 (by simp)
    show (pimg6 p0 p1 p2 p3 p4 p5).1.Few
    unfold pimg6
    repeat' split
    all_goals first | exact z | exact ⟨by simp only [thr_len]; omega, by simp only; omega, by simp only; omega, by simp only [thr_len]; omega, by simp only; omega, by simp only; omega⟩
  · rw [pimg_len h6]; exact z
theorem planes_sm (i : Im) (few : i.Few) : ∀ p ∈ (planes i).1, p.data.length ≤ 30000 := by
  obtain ⟨f0, f1, f2, f3, f4, f5⟩ := few
  intro p hp
  unfold planes at hp
  split at hp
  · simp at hp
  · have g0 := fl3_len i.be
    have g3 := fl3_len i.no
    simp only [Im.pls, List.mem_cons, List.not_mem_nil, or_false] at hp
    rcases hp with rfl | rfl | rfl | rfl | rfl | rfl <;> simp only [Im.p0, Im.p1, Im.p2, Im.p3, Im.p4, Im.p5] <;> omega
def fews (l : List Pl) : List Pl := (l.take 8).map Pl.few
theorem pimages_law {R : Env} (h : N368 R) (i : Im) (l : List Pl) : R.Pc 368 [.agg i.row, .isl 5 (slP l)] (.bool true) :=
  h.o368.enter 100 rfl fun X bb hfit hp => by
    refine sh ?_
    refine ICall.pure h.n135.o135.hb (fewI_c h.n135 i) rfl ?_
    have hf := fewI_few i
    generalize i.fewI = i at hf ⊢
    have el : (slP l).length = l.length := by simp [slP]
    have hA0 : (planes i).1.length ≤ 1000 := by unfold planes; split <;> simp [Im.pls]
    refine sh ?_
    refine ILoop.one 100 ?_
    by_cases h0 : l = []
    · subst h0
      refine sh ?_
      refine acnd_f (by rfl) ?_
      have hd : ∀ p ∈ ([] : List Pl), p.data.length ≤ 100 := by simp
      refine sh ?_
      refine ICall.pure h.n132.o132.hb (planes_c h.n132 i hf) rfl ?_
      refine sh ?_
      refine ICall.pure h.n155.o155.hb (rplanes_c h.n155 i hf) rfl ?_
      refine sh ?_
      refine acnd_f (by simp) ?_
      refine sh ?_
      refine acnd_f (by simp) ?_
      have sm := planes_sm i hf
      generalize (planes i).1 = A at sm hA0 ⊢
      have eA : (slP A).length = A.length := by simp [slP]
      refine sh ?_
      refine lPa 100 (fun k : Nat => k ≤ A.length) (fun k => ⟨[(5, .nils), (7, .isl 5 (slP A)), (9, .isl 5 (slP A)), (57, .int .i64 A.length), (58, .int .i64 k)], [], 1⟩) (fun k => A.length - k) (0) ?_ ?_
      · exact Nat.zero_le _
      · intro k hk
        dsimp only
        refine sh ?_
        refine cS (fun h2 => ?_) (fun h2 => ?_)
        · obtain ⟨x, hx⟩ : ∃ u_, A[k]? = some u_ := ⟨_, List.getElem?_eq_getElem (by first | omega | (simp <;> omega))⟩
          refine sh ?_
          refine eget_map hx ?_
          refine sh ?_
          refine eget_map hx ?_
          refine sh ?_
          refine ICall.pure h.n175.o175.hb (sameP_c h.n175 x (sm x (List.mem_of_getElem? hx))) rfl ?_
          refine sh ?_
          refine nXa (k + 1) ?_ ?_
          · omega
          · omega
        · refine sh ?_
          refine cM false [] ((pimg_c h.n369 [] (by simp) (by simp)).mc h.n369.o369.hb) ?_
          repeat ((intro _u; clear _u); first | refine eK ?_ | refine eP ?_)
          refine sh ?_
          refine cM false [] ((rpimg_c h.n370 [] (by simp) (by simp)).mc h.n370.o370.hb) ?_
          repeat ((intro _u; clear _u); first | refine eK ?_ | refine eP ?_)
          refine sh ?_
          refine ICall.pure h.n117.o117.hb (sameI_c h.n117 _ (pimg_few hd)) rfl ?_
          refine sh ?_
          refine acnd_t (by rfl) ?_
          refine sh ?_
          refine ICall.pure h.n367.o367.hb (works30_c h.n367) rfl ?_
          refine sh ?_
          exact rT
    · have h1 : 1 ≤ l.length := Nat.one_le_iff_ne_zero.2 fun e => h0 (List.eq_nil_of_length_eq_zero e)
      have hs : ∀ p ∈ fews l, SmP p := fun p hp => by
        obtain ⟨q, _, rfl⟩ := List.mem_map.1 hp
        exact SmP.few q
      have hd : ∀ p ∈ fews l, p.data.length ≤ 100 := fun p hp => by
        obtain ⟨q, _, rfl⟩ := List.mem_map.1 hp
        simp [Pl.few]; omega
      have hm : (fews l).length ≤ 100 := by simp [fews]; omega
      refine sh ?_
      refine acnd_t (by simp; omega) ?_
      refine sh ?_
      refine acnd_t (by decide) ?_
      obtain ⟨x, hx⟩ : ∃ u_, l[0]? = some u_ := ⟨_, List.getElem?_eq_getElem (by first | omega | (simp <;> omega))⟩
      refine sh ?_
      refine eget_map hx ?_
      refine sh ?_
      refine ICall.pure h.n364.o364.hb (fewp_c h.n364 x) rfl ?_
      refine sh ?_
      refine ILoop.inv 100 (fun k : Nat => 1 ≤ k ∧ k ≤ l.length ∧ k ≤ 8) (fun k => ⟨[(1, .isl 5 (slP l)), (2, .loc 0 1 0 0), (5, .osl 2 k), (6, .int .i64 k)], [(2, .arr (R.ty 20) 5 (slP ((l.take k).map Pl.few))), (0, .var (R.ty 16) i.row)], 3⟩) (fun k => 8 - k) (1) ?_ ⟨⟨_, hp, rfl⟩, ?_, ?_⟩ ?_
      · omega
      · all_goals repeat' (first | exact True.intro | refine And.intro ?_ ?_ | (intro _u; clear _u) | (with_reducible first | refine eM ?_ ?_ | refine eF ?_ ?_ ?_ | refine eN ?_ | refine eL ?_ ?_ ?_ | refine eA ?_ ?_ | refine IWk.mk ⟨_, hp, rfl⟩ ?_ ?_) | refine IWk.mk ⟨_, hp, rfl⟩ ?_ ?_)
        all_goals first | with_reducible rfl | omega | exact Or.inl (by decide) | (simp; done) | rfl | skip
      · all_goals repeat' (first | exact True.intro | refine And.intro ?_ ?_ | (intro _u; clear _u) | (with_reducible first | refine eM ?_ ?_ | refine eF ?_ ?_ ?_ | refine eN ?_ | refine eL ?_ ?_ ?_ | refine eA ?_ ?_ | refine IWk.mk ⟨_, hp, rfl⟩ ?_ ?_) | refine IWk.mk ⟨_, hp, rfl⟩ ?_ ?_)
        all_goals first | with_reducible rfl | omega | exact Or.inl (by decide) | (simp; done) | rfl | skip
        all_goals (have e1 := take_succ_get hx; simp at e1; simp [slP, e1])
      · intro k hk
        dsimp only
        refine sh ?_
        refine cS (fun h2 => ?_) (fun h2 => ?_)
        · refine sh ?_
          refine cS (fun h3 => ?_) (fun h3 => ?_)
          · obtain ⟨y, hy⟩ : ∃ u_, l[k]? = some u_ := ⟨_, List.getElem?_eq_getElem (by first | omega | (simp <;> omega))⟩
            refine sh ?_
            refine eget_map hy ?_
            refine sh ?_
            refine ICall.pure h.n364.o364.hb (fewp_c h.n364 y) rfl ?_
            refine sh ?_
            refine nX (k + 1) ?_ ?_ ⟨_, hp, rfl⟩ ?_ ?_
            · omega
            · omega
            · all_goals repeat' (first | exact True.intro | refine And.intro ?_ ?_ | (intro _u; clear _u) | (with_reducible first | refine eM ?_ ?_ | refine eF ?_ ?_ ?_ | refine eN ?_ | refine eL ?_ ?_ ?_ | refine eA ?_ ?_ | refine IWk.mk ⟨_, hp, rfl⟩ ?_ ?_) | refine IWk.mk ⟨_, hp, rfl⟩ ?_ ?_)
              all_goals first | with_reducible rfl | omega | exact Or.inl (by decide) | (simp; done) | rfl | skip
              simp; omega
            · all_goals repeat' (first | exact True.intro | refine And.intro ?_ ?_ | (intro _u; clear _u) | (with_reducible first | refine eM ?_ ?_ | refine eF ?_ ?_ ?_ | refine eN ?_ | refine eL ?_ ?_ ?_ | refine eA ?_ ?_ | refine IWk.mk ⟨_, hp, rfl⟩ ?_ ?_) | refine IWk.mk ⟨_, hp, rfl⟩ ?_ ?_)
              all_goals first | with_reducible rfl | omega | exact Or.inl (by decide) | (simp; done) | rfl | skip
              rw [take_succ_get hy]
              all_goals first | (simp; done) | (simp; rfl) | trace_state
          · have ek : k = 8 := by omega
            have ef : (l.take k).map Pl.few = fews l := by subst ek; rfl
            have el : (fews l).length = k := by rw [← ef]; simp; omega
            rw [ef]
            refine sh ?_
            refine ICall.let [2] rfl hp rfl ?_
            repeat ((intro _u; clear _u); first | refine eZ ?_ | refine eZ ?_ (by simp; omega) | refine FrzC.drop ?_)
            refine sh ?_
            refine ICall.pure h.n132.o132.hb (planes_c h.n132 i hf) rfl ?_
            refine sh ?_
            refine ICall.pure h.n155.o155.hb (rplanes_c h.n155 i hf) rfl ?_
            refine sh ?_
            refine acnd_f (by simp) ?_
            refine sh ?_
            refine acnd_f (by simp) ?_
            have sm := planes_sm i hf
            generalize (planes i).1 = A at sm hA0 ⊢
            have eA : (slP A).length = A.length := by simp [slP]
            refine sh ?_
            refine lPa 100 (fun k : Nat => k ≤ A.length) (fun k => ⟨[(5, .isl 5 (slP (fews l))), (7, .isl 5 (slP A)), (9, .isl 5 (slP A)), (57, .int .i64 A.length), (58, .int .i64 k)], [], 3⟩) (fun k => A.length - k) (0) ?_ ?_
            · exact Nat.zero_le _
            · intro k hk
              dsimp only
              refine sh ?_
              refine cS (fun h2 => ?_) (fun h2 => ?_)
              · obtain ⟨x, hx⟩ : ∃ u_, A[k]? = some u_ := ⟨_, List.getElem?_eq_getElem (by first | omega | (simp <;> omega))⟩
                refine sh ?_
                refine eget_map hx ?_
                refine sh ?_
                refine eget_map hx ?_
                refine sh ?_
                refine ICall.pure h.n175.o175.hb (sameP_c h.n175 x (sm x (List.mem_of_getElem? hx))) rfl ?_
                refine sh ?_
                refine nXa (k + 1) ?_ ?_
                · omega
                · omega
              · refine sh ?_
                refine ICall.pure h.n369.o369.hb (pimg_c h.n369 (fews l) hm hs) rfl ?_
                refine sh ?_
                refine ICall.pure h.n370.o370.hb (rpimg_c h.n370 (fews l) hm hs) rfl ?_
                refine sh ?_
                refine ICall.pure h.n117.o117.hb (sameI_c h.n117 _ (pimg_few hd)) rfl ?_
                refine sh ?_
                refine acnd_t (by simp) ?_
                refine sh ?_
                refine ICall.pure h.n367.o367.hb (works30_c h.n367) rfl ?_
                refine sh ?_
                exact rT
        · have ek : k = l.length := by omega
          have ef : (l.take k).map Pl.few = fews l := by rw [fews, List.take_of_length_le (by omega), List.take_of_length_le (by omega)]
          have el : (fews l).length = k := by rw [← ef]; simp; omega
          rw [ef]
          refine sh ?_
          refine ICall.let [2] rfl hp rfl ?_
          repeat ((intro _u; clear _u); first | refine eZ ?_ | refine eZ ?_ (by simp; omega) | refine FrzC.drop ?_)
          refine sh ?_
          refine ICall.pure h.n132.o132.hb (planes_c h.n132 i hf) rfl ?_
          refine sh ?_
          refine ICall.pure h.n155.o155.hb (rplanes_c h.n155 i hf) rfl ?_
          refine sh ?_
          refine acnd_f (by simp) ?_
          refine sh ?_
          refine acnd_f (by simp) ?_
          have sm := planes_sm i hf
          generalize (planes i).1 = A at sm hA0 ⊢
          have eA : (slP A).length = A.length := by simp [slP]
          refine sh ?_
          refine lPa 100 (fun k : Nat => k ≤ A.length) (fun k => ⟨[(5, .isl 5 (slP (fews l))), (7, .isl 5 (slP A)), (9, .isl 5 (slP A)), (57, .int .i64 A.length), (58, .int .i64 k)], [], 3⟩) (fun k => A.length - k) (0) ?_ ?_
          · exact Nat.zero_le _
          · intro k hk
            dsimp only
            refine sh ?_
            refine cS (fun h2 => ?_) (fun h2 => ?_)
            · obtain ⟨x, hx⟩ : ∃ u_, A[k]? = some u_ := ⟨_, List.getElem?_eq_getElem (by first | omega | (simp <;> omega))⟩
              refine sh ?_
              refine eget_map hx ?_
              refine sh ?_
              refine eget_map hx ?_
              refine sh ?_
              refine ICall.pure h.n175.o175.hb (sameP_c h.n175 x (sm x (List.mem_of_getElem? hx))) rfl ?_
              refine sh ?_
              refine nXa (k + 1) ?_ ?_
              · omega
              · omega
            · refine sh ?_
              refine ICall.pure h.n369.o369.hb (pimg_c h.n369 (fews l) hm hs) rfl ?_
              refine sh ?_
              refine ICall.pure h.n370.o370.hb (rpimg_c h.n370 (fews l) hm hs) rfl ?_
              refine sh ?_
              refine ICall.pure h.n117.o117.hb (sameI_c h.n117 _ (pimg_few hd)) rfl ?_
              refine sh ?_
              refine acnd_t (by simp) ?_
              refine sh ?_
              refine ICall.pure h.n367.o367.hb (works30_c h.n367) rfl ?_
              refine sh ?_
              exact rT
end Go.UM

namespace Go.UM
open Go.AM
set_option pp.maxSteps 700
theorem openK {T : TT} {n e : Nat} {k : IntKind} {es : List (List AV)} (hT : T.d e = .int k) (h : ∀ r ∈ es, cty T (n + 1) e r) : ∃ l : List Int, es = slcK k l ∧ ∀ x ∈ l, inI k x := by
  obtain ⟨l, rfl, hl⟩ := rows_map (f := fun c : Int => [AV.int k c]) (p := fun c => inI k c) (es := es) fun r hr => by
    have h1 := h r hr
    simp only [cty, hT] at h1
    obtain ⟨x, rfl, hx⟩ := h1
    exact ⟨x, rfl, wf_in hx⟩
  exact ⟨l, rfl, hl⟩
end Go.UM
