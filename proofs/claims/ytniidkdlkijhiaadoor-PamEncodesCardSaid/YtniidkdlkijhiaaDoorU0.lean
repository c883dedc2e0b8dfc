/- Of the reckoning machine, and what is proved with it: texts joined by program. -/
import Derived.Test.YtniidkdlkijhiaaDoorK2

namespace Go.UM
open Go.AM
end Go.UM

namespace Go.UM
open Go.AM
def c47 : IFn := { np := 2, rs := [.t 4], body :=
 (.seq
  (.ops [⟨some 4, none, .mv (.k (.bool false))⟩])
  (.seq
   (.ops [⟨some 5, none, .mv (.t 0)⟩,
     ⟨some 6, none, .b2s (.t 5)⟩,
     ⟨some 7, none, .mv (.t 1)⟩,
     ⟨some 8, none, .b2s (.t 7)⟩,
     ⟨some 9, none, .bst .eql (.t 6) (.t 8)⟩,
     ⟨some 4, none, .mv (.t 9)⟩])
   (.keep [4]
    .ret))) }
structure N47 (R : Env) : Prop where
  o47 : R.Fn 47 c47
def c400 : IFn := { np := 1, rs := [.t 2], body :=
 (.seq
  (.ops [⟨some 2, none, .mv (.k (.str []))⟩])
  (.seq
   (.seq
    (.ops [⟨some 3, none, .mv (.t 0)⟩,
      ⟨some 4, none, .bin .lss (.t 3) (.k (.int .i64 10))⟩])
    (.cond (.t 4)
     (.seq
      (.ops [⟨some 5, none, .mv (.t 0)⟩,
        ⟨some 6, none, .mv (.t 0)⟩,
        ⟨some 7, none, .bin .add (.t 6) (.k (.int .i64 1))⟩,
        ⟨some 8, none, .slcT (.k (.str [48, 49, 50, 51, 52, 53, 54, 55, 56, 57, 97, 98, 99, 100, 101, 102, 103, 104, 105, 106, 107, 108, 109, 110, 111, 112, 113, 114, 115, 116, 117, 118, 119, 120, 121, 122])) (some (.t 5)) (some (.t 7))⟩,
        ⟨some 2, none, .mv (.t 8)⟩])
      (.keep [2]
       .ret))
     .skip))
   (.keep [0]
    (.seq
     (.ops [⟨some 9, none, .mv (.t 0)⟩,
       ⟨some 10, none, .bin .mul (.t 9) (.k (.int .i64 2))⟩,
       ⟨some 11, none, .mv (.t 0)⟩,
       ⟨some 12, none, .bin .mul (.t 11) (.k (.int .i64 2))⟩,
       ⟨some 13, none, .bin .add (.t 12) (.k (.int .i64 2))⟩,
       ⟨some 14, none, .slcT (.k (.str [48, 48, 48, 49, 48, 50, 48, 51, 48, 52, 48, 53, 48, 54, 48, 55, 48, 56, 48, 57, 49, 48, 49, 49, 49, 50, 49, 51, 49, 52, 49, 53, 49, 54, 49, 55, 49, 56, 49, 57, 50, 48, 50, 49, 50, 50, 50, 51, 50, 52, 50, 53, 50, 54, 50, 55, 50, 56, 50, 57, 51, 48, 51, 49, 51, 50, 51, 51, 51, 52, 51, 53, 51, 54, 51, 55, 51, 56, 51, 57, 52, 48, 52, 49, 52, 50, 52, 51, 52, 52, 52, 53, 52, 54, 52, 55, 52, 56, 52, 57, 53, 48, 53, 49, 53, 50, 53, 51, 53, 52, 53, 53, 53, 54, 53, 55, 53, 56, 53, 57, 54, 48, 54, 49, 54, 50, 54, 51, 54, 52, 54, 53, 54, 54, 54, 55, 54, 56, 54, 57, 55, 48, 55, 49, 55, 50, 55, 51, 55, 52, 55, 53, 55, 54, 55, 55, 55, 56, 55, 57, 56, 48, 56, 49, 56, 50, 56, 51, 56, 52, 56, 53, 56, 54, 56, 55, 56, 56, 56, 57, 57, 48, 57, 49, 57, 50, 57, 51, 57, 52, 57, 53, 57, 54, 57, 55, 57, 56, 57, 57])) (some (.t 10)) (some (.t 13))⟩,
       ⟨some 2, none, .mv (.t 14)⟩])
     (.keep [2]
      .ret))))) }
structure N400 (R : Env) : Prop where
  o400 : R.Fn 400 c400
def c399 : IFn := { np := 2, rs := [.t 4], body :=
 (.seq
  (.ops [⟨some 4, none, .mv (.k (.str []))⟩])
  (.seq
   (.seq
    (.ops [⟨some 10, none, .mv (.t 1)⟩,
      ⟨some 11, none, .bin .eql (.t 10) (.k (.int .i64 10))⟩])
    (.cond (.t 11)
     (.seq
      (.seq
       (.ops [⟨some 12, none, .mv (.t 0)⟩,
         ⟨some 13, none, .bin .leq (.k (.int .i64 0)) (.t 12)⟩,
         ⟨some 14, none, .mv (.t 13)⟩,
         ⟨some 15, some (14, true), .mv (.t 0)⟩,
         ⟨some 16, some (14, true), .bin .lss (.t 15) (.k (.int .i64 100))⟩,
         ⟨some 17, none, .pick (.t 14) (.t 16) (.k (.bool false))⟩])
       (.keep [0, 17]
        (.cond (.t 17)
         (.seq
          (.ops [⟨some 18, none, .mv (.t 0)⟩,
            ⟨some 19, none, .call 400 [.t 18]⟩,
            ⟨some 4, none, .mv (.t 19)⟩])
          .ret)
         .skip)))
      (.keep [0]
       (.seq
        (.ops [⟨some 5, none, .alloc 53 [.int .u8 0, .int .u8 0, .int .u8 0, .int .u8 0, .int .u8 0, .int .u8 0, .int .u8 0, .int .u8 0, .int .u8 0, .int .u8 0, .int .u8 0, .int .u8 0, .int .u8 0, .int .u8 0, .int .u8 0, .int .u8 0, .int .u8 0, .int .u8 0, .int .u8 0, .int .u8 0, .int .u8 0, .int .u8 0, .int .u8 0, .int .u8 0]⟩])
        (.seq
         (.ops [⟨some 20, none, .mv (.t 0)⟩,
           ⟨some 21, none, .conv .u64 (.t 20)⟩,
           ⟨some 6, none, .mv (.t 21)⟩])
         (.seq
          (.seq
           (.ops [⟨some 22, none, .mv (.t 0)⟩,
             ⟨some 23, none, .bin .lss (.t 22) (.k (.int .i64 0))⟩])
           (.cond (.t 23)
            (.ops [⟨some 24, none, .mv (.t 6)⟩,
              ⟨some 25, none, .un .neg (.t 24)⟩,
              ⟨some 6, none, .mv (.t 25)⟩])
            .skip))
          (.keep []
           .bad))))))
     .skip))
   (.keep []
    .bad))) }
structure N399 (R : Env) : Prop where
  o399 : R.Fn 399 c399
  n400 : N400 R
def c396 : IFn := { np := 1, rs := [.t 2], body :=
 (.seq
  (.ops [⟨some 2, none, .mv (.k (.str []))⟩])
  (.seq
   (.ops [⟨some 3, none, .mv (.t 0)⟩,
     ⟨some 4, none, .call 399 [.t 3, .k (.int .i64 10)]⟩,
     ⟨some 2, none, .mv (.t 4)⟩])
   .ret)) }
structure N396 (R : Env) : Prop where
  o396 : R.Fn 396 c396
  n399 : N399 R
def c393 : IFn := { np := 1, rs := [.t 2], body :=
 (.seq
  (.ops [⟨some 2, none, .mv (.k (.str []))⟩])
  (.seq
   (.ops [⟨some 3, none, .mv (.t 0)⟩,
     ⟨some 4, none, .call 396 [.t 3]⟩,
     ⟨some 2, none, .mv (.t 4)⟩])
   .ret)) }
structure N393 (R : Env) : Prop where
  o393 : R.Fn 393 c393
  n396 : N396 R
end Go.UM

namespace Go.UM
open Go.AM
def c157 : IFn := { np := 3, rs := [.t 6], body :=
 (.seq
  (.ops [⟨some 6, none, .mv (.k (.bool false))⟩])
  (.seq
   (.ops [⟨some 7, none, .mv (.t 0)⟩,
     ⟨some 8, none, .mv (.t 1)⟩,
     ⟨some 9, none, .bin .geq (.t 7) (.t 8)⟩,
     ⟨some 10, none, .mv (.t 9)⟩,
     ⟨some 11, some (10, true), .mv (.t 0)⟩,
     ⟨some 12, some (10, true), .mv (.t 2)⟩,
     ⟨some 13, some (10, true), .bin .leq (.t 11) (.t 12)⟩,
     ⟨some 14, none, .pick (.t 10) (.t 13) (.k (.bool false))⟩,
     ⟨some 6, none, .mv (.t 14)⟩])
   (.keep [6]
    .ret))) }
structure N157 (R : Env) : Prop where
  o157 : R.Fn 157 c157
def c158 : IFn := { np := 1, rs := [.t 2], body :=
 (.seq
  (.ops [⟨some 2, none, .mv (.k (.bool false))⟩])
  (.seq
   (.seq
    (.ops [⟨some 5, none, .mv (.t 0)⟩,
      ⟨some 6, none, .s2b 4 (.t 5)⟩,
      ⟨some 7, none, .lenS (.t 6)⟩,
      ⟨some 8, none, .mv (.k (.int .i64 0))⟩])
    (.keep [0, 6, 7, 8]
     (.block 0
      (.loop
       (.seq
        (.ops [⟨some 9, none, .bin .lss (.t 8) (.t 7)⟩])
        (.seq
         (.cond (.t 9)
          .skip
          (.exit 0))
         (.keep [0, 6, 7, 8]
          (.seq
           (.block 1
            (.seq
             (.ops [⟨some 10, none, .idxS 1 (.t 6) (.t 8)⟩,
               ⟨some 11, none, .load false 1 (.t 10)⟩,
               ⟨some 4, none, .mv (.t 11)⟩])
             (.seq
              (.ops [⟨some 12, none, .mv (.t 4)⟩,
                ⟨some 13, none, .bin .lss (.t 12) (.k (.int .u8 65))⟩,
                ⟨some 14, none, .mv (.t 13)⟩,
                ⟨some 15, some (14, false), .mv (.t 4)⟩,
                ⟨some 16, some (14, false), .bin .gtr (.t 15) (.k (.int .u8 90))⟩,
                ⟨some 17, none, .pick (.t 14) (.k (.bool true)) (.t 16)⟩])
              (.keep [0, 6, 7, 8, 17]
               (.cond (.t 17)
                (.seq
                 (.ops [⟨some 2, none, .mv (.k (.bool false))⟩])
                 .ret)
                .skip)))))
           (.keep [0, 6, 7, 8]
            (.ops [⟨some 18, none, .bin .add (.t 8) (.k (.int .i64 1))⟩,
              ⟨some 8, none, .mv (.t 18)⟩]))))))))))
   (.keep [0]
    (.seq
     (.ops [⟨some 19, none, .mv (.t 0)⟩,
       ⟨some 20, none, .lenT (.t 19)⟩,
       ⟨some 21, none, .call 157 [.t 20, .k (.int .i64 1), .k (.int .i64 16)]⟩,
       ⟨some 2, none, .mv (.t 21)⟩])
     .ret)))) }
structure N158 (R : Env) : Prop where
  o158 : R.Fn 158 c158
  n157 : N157 R
def c153 : IFn := { np := 1, rs := [.t 2], body :=
 (.seq
  (.ops [⟨some 1, none, .box 20 (.t 0)⟩,
    ⟨some 2, none, .mv (.k (.int .i64 0))⟩])
  (.seq
   (.seq
    (.ops [⟨some 5, none, .fldA 0 (.t 1)⟩,
      ⟨some 6, none, .load false 1 (.t 5)⟩,
      ⟨some 7, none, .call 157 [.t 6, .k (.int .i64 1), .k (.int .i64 64)]⟩,
      ⟨some 8, none, .un .not (.t 7)⟩,
      ⟨some 9, none, .mv (.t 8)⟩,
      ⟨some 10, some (9, false), .fldA 1 (.t 1)⟩,
      ⟨some 11, some (9, false), .load false 1 (.t 10)⟩,
      ⟨some 12, some (9, false), .call 157 [.t 11, .k (.int .i64 1), .k (.int .i64 64)]⟩,
      ⟨some 13, some (9, false), .un .not (.t 12)⟩,
      ⟨some 14, none, .pick (.t 9) (.k (.bool true)) (.t 13)⟩,
      ⟨some 15, none, .mv (.t 14)⟩,
      ⟨some 16, some (15, false), .fldA 2 (.t 1)⟩,
      ⟨some 17, some (15, false), .load false 1 (.t 16)⟩,
      ⟨some 18, some (15, false), .call 157 [.t 17, .k (.int .i64 1), .k (.int .i64 4)]⟩,
      ⟨some 19, some (15, false), .un .not (.t 18)⟩,
      ⟨some 20, none, .pick (.t 15) (.k (.bool true)) (.t 19)⟩])
    (.keep [1, 20]
     (.cond (.t 20)
      (.seq
       (.ops [⟨some 2, none, .mv (.k (.int .i64 2))⟩])
       .ret)
      .skip)))
   (.keep [1]
    (.seq
     (.seq
      (.ops [⟨some 21, none, .fldA 3 (.t 1)⟩,
        ⟨some 22, none, .load false 1 (.t 21)⟩,
        ⟨some 23, none, .call 158 [.t 22]⟩,
        ⟨some 24, none, .un .not (.t 23)⟩,
        ⟨some 25, none, .mv (.t 24)⟩,
        ⟨some 26, some (25, false), .fldA 4 (.t 1)⟩,
        ⟨some 27, some (25, false), .load false 1 (.t 26)⟩,
        ⟨some 28, some (25, false), .lenS (.t 27)⟩,
        ⟨some 29, some (25, false), .fldA 0 (.t 1)⟩,
        ⟨some 30, some (25, false), .load false 1 (.t 29)⟩,
        ⟨some 31, some (25, false), .fldA 1 (.t 1)⟩,
        ⟨some 32, some (25, false), .load false 1 (.t 31)⟩,
        ⟨some 33, some (25, false), .bin .mul (.t 30) (.t 32)⟩,
        ⟨some 34, some (25, false), .fldA 2 (.t 1)⟩,
        ⟨some 35, some (25, false), .load false 1 (.t 34)⟩,
        ⟨some 36, some (25, false), .bin .mul (.t 33) (.t 35)⟩,
        ⟨some 37, some (25, false), .bin .neq (.t 28) (.t 36)⟩,
        ⟨some 38, none, .pick (.t 25) (.k (.bool true)) (.t 37)⟩])
      (.keep [1, 38]
       (.cond (.t 38)
        (.seq
         (.ops [⟨some 2, none, .mv (.k (.int .i64 5))⟩])
         .ret)
        .skip)))
     (.keep [1]
      (.seq
       (.seq
        (.ops [⟨some 39, none, .fldA 4 (.t 1)⟩,
          ⟨some 40, none, .load false 1 (.t 39)⟩,
          ⟨some 41, none, .lenS (.t 40)⟩,
          ⟨some 42, none, .mv (.k (.int .i64 0))⟩])
        (.keep [40, 41, 42]
         (.block 0
          (.loop
           (.seq
            (.ops [⟨some 43, none, .bin .lss (.t 42) (.t 41)⟩])
            (.seq
             (.cond (.t 43)
              .skip
              (.exit 0))
             (.keep [40, 41, 42]
              (.seq
               (.block 1
                (.seq
                 (.ops [⟨some 44, none, .idxS 1 (.t 40) (.t 42)⟩,
                   ⟨some 45, none, .load false 1 (.t 44)⟩,
                   ⟨some 4, none, .mv (.t 45)⟩])
                 (.seq
                  (.ops [⟨some 46, none, .mv (.t 4)⟩,
                    ⟨some 47, none, .call 157 [.t 46, .k (.int .i64 0), .k (.int .i64 65535)]⟩,
                    ⟨some 48, none, .un .not (.t 47)⟩])
                  (.cond (.t 48)
                   (.seq
                    (.ops [⟨some 2, none, .mv (.k (.int .i64 5))⟩])
                    .ret)
                   .skip))))
               (.keep [40, 41, 42]
                (.ops [⟨some 49, none, .bin .add (.t 42) (.k (.int .i64 1))⟩,
                  ⟨some 42, none, .mv (.t 49)⟩]))))))))))
       (.keep []
        (.seq
         (.ops [⟨some 2, none, .mv (.k (.int .i64 0))⟩])
         .ret)))))))) }
structure N153 (R : Env) : Prop where
  o153 : R.Fn 153 c153
  n157 : N157 R
  n158 : N158 R
def c381 : IFn := { np := 1, rs := [.t 2], body :=
 (.seq
  (.ops [⟨some 1, none, .box 20 (.t 0)⟩,
    ⟨some 2, none, .mv (.k (.str []))⟩])
  (.seq
   (.draw [0, 1, 3, 7, 15, 0, 32, 103, 255, 511, 0, 1024, 3303, 8191, 16383, 0, 32768, 131071, 262143, 524287] [[1], [3], [4], [5], [6], [1], [8], [9], [7, 10], [11], [1], [13], [14], [12, 15], [16], [1], [18], [17, 19], [20], [21]] [⟨some 3, none, .fldA 0 (.t 1)⟩,
     ⟨some 4, none, .load false 1 (.t 3)⟩,
     ⟨some 5, none, .call 393 [.t 4]⟩,
     ⟨some 6, none, .bst .add (.k (.str [80, 55, 10, 87, 73, 68, 84, 72, 32])) (.t 5)⟩,
     ⟨some 7, none, .bst .add (.t 6) (.k (.str [10, 72, 69, 73, 71, 72, 84, 32]))⟩,
     ⟨some 8, none, .fldA 1 (.t 1)⟩,
     ⟨some 9, none, .load false 1 (.t 8)⟩,
     ⟨some 10, none, .call 393 [.t 9]⟩,
     ⟨some 11, none, .bst .add (.t 7) (.t 10)⟩,
     ⟨some 12, none, .bst .add (.t 11) (.k (.str [10, 68, 69, 80, 84, 72, 32]))⟩,
     ⟨some 13, none, .fldA 2 (.t 1)⟩,
     ⟨some 14, none, .load false 1 (.t 13)⟩,
     ⟨some 15, none, .call 393 [.t 14]⟩,
     ⟨some 16, none, .bst .add (.t 12) (.t 15)⟩,
     ⟨some 17, none, .bst .add (.t 16) (.k (.str [10, 77, 65, 88, 86, 65, 76, 32, 54, 53, 53, 51, 53, 10, 84, 85, 80, 76, 84, 89, 80, 69, 32]))⟩,
     ⟨some 18, none, .fldA 3 (.t 1)⟩,
     ⟨some 19, none, .load false 1 (.t 18)⟩,
     ⟨some 20, none, .bst .add (.t 17) (.t 19)⟩,
     ⟨some 21, none, .bst .add (.t 20) (.k (.str [10, 69, 78, 68, 72, 68, 82, 10]))⟩,
     ⟨some 2, none, .mv (.t 21)⟩])
   (.keep [2]
    .ret))) }
structure N381 (R : Env) : Prop where
  o381 : R.Fn 381 c381
  n393 : N393 R
def c365 : IFn := { np := 1, rs := [.t 2, .t 3], body :=
 (.seq
  (.ops [⟨some 1, none, .box 20 (.t 0)⟩,
    ⟨some 2, none, .mv (.k (.nils))⟩,
    ⟨some 3, none, .mv (.k (.int .i64 0))⟩])
  (.seq
   (.seq
    (.ops [⟨some 8, none, .load true 5 (.t 1)⟩,
      ⟨some 9, none, .call 153 [.t 8]⟩,
      ⟨some 4, none, .mv (.t 9)⟩])
    (.seq
     (.ops [⟨some 10, none, .mv (.t 4)⟩,
       ⟨some 11, none, .bin .neq (.t 10) (.k (.int .i64 0))⟩])
     (.cond (.t 11)
      (.seq
       (.ops [⟨some 12, none, .mv (.t 4)⟩,
         ⟨some 2, none, .mv (.k (.nils))⟩,
         ⟨some 3, none, .mv (.t 12)⟩])
       .ret)
      .skip)))
   (.keep [1]
    (.seq
     (.ops [⟨some 13, none, .load true 5 (.t 1)⟩,
       ⟨some 14, none, .call 381 [.t 13]⟩,
       ⟨some 15, none, .s2b 4 (.t 14)⟩,
       ⟨some 5, none, .mv (.t 15)⟩])
     (.seq
      (.seq
       (.ops [⟨some 16, none, .fldA 4 (.t 1)⟩,
         ⟨some 17, none, .load false 1 (.t 16)⟩,
         ⟨some 18, none, .lenS (.t 17)⟩,
         ⟨some 19, none, .mv (.k (.int .i64 0))⟩])
       (.keep [5, 17, 18, 19]
        (.block 0
         (.loop
          (.seq
           (.ops [⟨some 20, none, .bin .lss (.t 19) (.t 18)⟩])
           (.seq
            (.cond (.t 20)
             .skip
             (.exit 0))
            (.keep [5, 17, 18, 19]
             (.seq
              (.block 1
               (.seq
                (.ops [⟨some 21, none, .idxS 1 (.t 17) (.t 19)⟩,
                  ⟨some 22, none, .load false 1 (.t 21)⟩,
                  ⟨some 7, none, .mv (.t 22)⟩])
                (.ops [⟨some 23, none, .mv (.t 5)⟩,
                  ⟨some 24, none, .mv (.t 7)⟩,
                  ⟨some 25, none, .bin .shr (.t 24) (.k (.int .u64 8))⟩,
                  ⟨some 26, none, .conv .u8 (.t 25)⟩,
                  ⟨some 27, none, .mv (.t 7)⟩,
                  ⟨some 28, none, .conv .u8 (.t 27)⟩,
                  ⟨some 29, none, .bslice 4 1 2 [.int .u8 0] [(0, .t 26), (1, .t 28)]⟩,
                  ⟨some 30, none, .app 4 1 (.t 23) (.t 29)⟩,
                  ⟨some 5, none, .mv (.t 30)⟩])))
              (.keep [5, 17, 18, 19]
               (.ops [⟨some 31, none, .bin .add (.t 19) (.k (.int .i64 1))⟩,
                 ⟨some 19, none, .mv (.t 31)⟩]))))))))))
      (.keep [5]
       (.seq
        (.ops [⟨some 32, none, .mv (.t 5)⟩,
          ⟨some 2, none, .mv (.t 32)⟩,
          ⟨some 3, none, .mv (.k (.int .i64 0))⟩])
        .ret))))))) }
structure N365 (R : Env) : Prop where
  o365 : R.Fn 365 c365
  n153 : N153 R
  n381 : N381 R
end Go.UM

namespace Go.UM
open Go.AM
end Go.UM

namespace Go.UM
open Go.AM
def c162 : IFn := { np := 1, rs := [.t 2], body :=
 (.seq
  (.ops [⟨some 1, none, .box 20 (.t 0)⟩,
    ⟨some 2, none, .mv (.k (.int .i64 0))⟩])
  (.seq
   (.seq
    (.ops [⟨some 5, none, .fldA 0 (.t 1)⟩,
      ⟨some 6, none, .load false 1 (.t 5)⟩,
      ⟨some 7, none, .bin .lss (.t 6) (.k (.int .i64 1))⟩,
      ⟨some 8, none, .mv (.t 7)⟩,
      ⟨some 9, some (8, false), .fldA 0 (.t 1)⟩,
      ⟨some 10, some (8, false), .load false 1 (.t 9)⟩,
      ⟨some 11, some (8, false), .bin .gtr (.t 10) (.k (.int .i64 64))⟩,
      ⟨some 12, none, .pick (.t 8) (.k (.bool true)) (.t 11)⟩,
      ⟨some 13, none, .mv (.t 12)⟩,
      ⟨some 14, some (13, false), .fldA 1 (.t 1)⟩,
      ⟨some 15, some (13, false), .load false 1 (.t 14)⟩,
      ⟨some 16, some (13, false), .bin .lss (.t 15) (.k (.int .i64 1))⟩,
      ⟨some 17, none, .pick (.t 13) (.k (.bool true)) (.t 16)⟩,
      ⟨some 18, none, .mv (.t 17)⟩,
      ⟨some 19, some (18, false), .fldA 1 (.t 1)⟩,
      ⟨some 20, some (18, false), .load false 1 (.t 19)⟩,
      ⟨some 21, some (18, false), .bin .gtr (.t 20) (.k (.int .i64 64))⟩,
      ⟨some 22, none, .pick (.t 18) (.k (.bool true)) (.t 21)⟩,
      ⟨some 23, none, .mv (.t 22)⟩,
      ⟨some 24, some (23, false), .fldA 2 (.t 1)⟩,
      ⟨some 25, some (23, false), .load false 1 (.t 24)⟩,
      ⟨some 26, some (23, false), .bin .lss (.t 25) (.k (.int .i64 1))⟩,
      ⟨some 27, none, .pick (.t 23) (.k (.bool true)) (.t 26)⟩,
      ⟨some 28, none, .mv (.t 27)⟩,
      ⟨some 29, some (28, false), .fldA 2 (.t 1)⟩,
      ⟨some 30, some (28, false), .load false 1 (.t 29)⟩,
      ⟨some 31, some (28, false), .bin .gtr (.t 30) (.k (.int .i64 4))⟩,
      ⟨some 32, none, .pick (.t 28) (.k (.bool true)) (.t 31)⟩])
    (.keep [1, 32]
     (.cond (.t 32)
      (.seq
       (.ops [⟨some 2, none, .mv (.k (.int .i64 2))⟩])
       .ret)
      .skip)))
   (.keep [1]
    (.seq
     (.seq
      (.ops [⟨some 33, none, .fldA 3 (.t 1)⟩,
        ⟨some 34, none, .load false 1 (.t 33)⟩,
        ⟨some 35, none, .lenT (.t 34)⟩,
        ⟨some 36, none, .bin .lss (.t 35) (.k (.int .i64 1))⟩,
        ⟨some 37, none, .mv (.t 36)⟩,
        ⟨some 38, some (37, false), .fldA 3 (.t 1)⟩,
        ⟨some 39, some (37, false), .load false 1 (.t 38)⟩,
        ⟨some 40, some (37, false), .lenT (.t 39)⟩,
        ⟨some 41, some (37, false), .bin .gtr (.t 40) (.k (.int .i64 16))⟩,
        ⟨some 42, none, .pick (.t 37) (.k (.bool true)) (.t 41)⟩,
        ⟨some 43, none, .mv (.t 42)⟩,
        ⟨some 44, some (43, false), .fldA 4 (.t 1)⟩,
        ⟨some 45, some (43, false), .load false 1 (.t 44)⟩,
        ⟨some 46, some (43, false), .lenS (.t 45)⟩,
        ⟨some 47, some (43, false), .fldA 0 (.t 1)⟩,
        ⟨some 48, some (43, false), .load false 1 (.t 47)⟩,
        ⟨some 49, some (43, false), .fldA 1 (.t 1)⟩,
        ⟨some 50, some (43, false), .load false 1 (.t 49)⟩,
        ⟨some 51, some (43, false), .bin .mul (.t 48) (.t 50)⟩,
        ⟨some 52, some (43, false), .fldA 2 (.t 1)⟩,
        ⟨some 53, some (43, false), .load false 1 (.t 52)⟩,
        ⟨some 54, some (43, false), .bin .mul (.t 51) (.t 53)⟩,
        ⟨some 55, some (43, false), .bin .neq (.t 46) (.t 54)⟩,
        ⟨some 56, none, .pick (.t 43) (.k (.bool true)) (.t 55)⟩])
      (.keep [1, 56]
       (.cond (.t 56)
        (.seq
         (.ops [⟨some 2, none, .mv (.k (.int .i64 5))⟩])
         .ret)
        .skip)))
     (.keep [1]
      (.seq
       (.seq
        (.ops [⟨some 3, none, .mv (.k (.int .i64 0))⟩])
        (.keep [1, 3]
         (.block 0
          (.loop
           (.seq
            (.seq
             (.ops [⟨some 57, none, .mv (.t 3)⟩,
               ⟨some 58, none, .fldA 3 (.t 1)⟩,
               ⟨some 59, none, .load false 1 (.t 58)⟩,
               ⟨some 60, none, .lenT (.t 59)⟩,
               ⟨some 61, none, .bin .lss (.t 57) (.t 60)⟩])
             (.keep [1, 3, 61]
              (.cond (.t 61)
               .skip
               (.exit 0))))
            (.keep [1, 3]
             (.seq
              (.block 1
               (.seq
                (.ops [⟨some 64, none, .fldA 3 (.t 1)⟩,
                  ⟨some 65, none, .load false 1 (.t 64)⟩,
                  ⟨some 66, none, .mv (.t 3)⟩,
                  ⟨some 67, none, .idxT (.t 65) (.t 66)⟩,
                  ⟨some 68, none, .bin .lss (.t 67) (.k (.int .u8 65))⟩,
                  ⟨some 69, none, .mv (.t 68)⟩,
                  ⟨some 70, some (69, false), .fldA 3 (.t 1)⟩,
                  ⟨some 71, some (69, false), .load false 1 (.t 70)⟩,
                  ⟨some 72, some (69, false), .mv (.t 3)⟩,
                  ⟨some 73, some (69, false), .idxT (.t 71) (.t 72)⟩,
                  ⟨some 74, some (69, false), .bin .gtr (.t 73) (.k (.int .u8 90))⟩,
                  ⟨some 75, none, .pick (.t 69) (.k (.bool true)) (.t 74)⟩])
                (.keep [1, 3, 75]
                 (.cond (.t 75)
                  (.seq
                   (.ops [⟨some 2, none, .mv (.k (.int .i64 5))⟩])
                   .ret)
                  .skip))))
              (.keep [1, 3]
               (.ops [⟨some 62, none, .mv (.t 3)⟩,
                 ⟨some 63, none, .bin .add (.t 62) (.k (.int .i64 1))⟩,
                 ⟨some 3, none, .mv (.t 63)⟩])))))))))
       (.keep [1]
        (.seq
         (.seq
          (.ops [⟨some 4, none, .mv (.k (.int .i64 0))⟩])
          (.keep [1, 4]
           (.block 2
            (.loop
             (.seq
              (.seq
               (.ops [⟨some 76, none, .mv (.t 4)⟩,
                 ⟨some 77, none, .fldA 4 (.t 1)⟩,
                 ⟨some 78, none, .load false 1 (.t 77)⟩,
                 ⟨some 79, none, .lenS (.t 78)⟩,
                 ⟨some 80, none, .bin .lss (.t 76) (.t 79)⟩])
               (.keep [1, 4, 80]
                (.cond (.t 80)
                 .skip
                 (.exit 2))))
              (.keep [1, 4]
               (.seq
                (.block 3
                 (.seq
                  (.ops [⟨some 83, none, .fldA 4 (.t 1)⟩,
                    ⟨some 84, none, .load false 1 (.t 83)⟩,
                    ⟨some 85, none, .mv (.t 4)⟩,
                    ⟨some 86, none, .idxS 1 (.t 84) (.t 85)⟩,
                    ⟨some 87, none, .load false 1 (.t 86)⟩,
                    ⟨some 88, none, .bin .lss (.t 87) (.k (.int .i64 0))⟩,
                    ⟨some 89, none, .mv (.t 88)⟩,
                    ⟨some 90, some (89, false), .fldA 4 (.t 1)⟩,
                    ⟨some 91, some (89, false), .load false 1 (.t 90)⟩,
                    ⟨some 92, some (89, false), .mv (.t 4)⟩,
                    ⟨some 93, some (89, false), .idxS 1 (.t 91) (.t 92)⟩,
                    ⟨some 94, some (89, false), .load false 1 (.t 93)⟩,
                    ⟨some 95, some (89, false), .bin .gtr (.t 94) (.k (.int .i64 65535))⟩,
                    ⟨some 96, none, .pick (.t 89) (.k (.bool true)) (.t 95)⟩])
                  (.keep [1, 4, 96]
                   (.cond (.t 96)
                    (.seq
                     (.ops [⟨some 2, none, .mv (.k (.int .i64 5))⟩])
                     .ret)
                    .skip))))
                (.keep [1, 4]
                 (.ops [⟨some 81, none, .mv (.t 4)⟩,
                   ⟨some 82, none, .bin .add (.t 81) (.k (.int .i64 1))⟩,
                   ⟨some 4, none, .mv (.t 82)⟩])))))))))
         (.keep []
          (.seq
           (.ops [⟨some 2, none, .mv (.k (.int .i64 0))⟩])
           .ret)))))))))) }
structure N162 (R : Env) : Prop where
  o162 : R.Fn 162 c162
def c394 : IFn := { np := 1, rs := [.t 2], body :=
 (.seq
  (.ops [⟨some 2, none, .mv (.k (.str []))⟩])
  (.seq
   (.ops [⟨some 3, none, .mv (.k (.str [48, 49, 50, 51, 52, 53, 54, 55, 56, 57]))⟩])
   (.seq
    (.seq
     (.ops [⟨some 4, none, .mv (.t 0)⟩,
       ⟨some 5, none, .bin .lss (.t 4) (.k (.int .i64 10))⟩])
     (.cond (.t 5)
      (.seq
       (.ops [⟨some 6, none, .mv (.t 3)⟩,
         ⟨some 7, none, .mv (.t 0)⟩,
         ⟨some 8, none, .mv (.t 0)⟩,
         ⟨some 9, none, .bin .add (.t 8) (.k (.int .i64 1))⟩,
         ⟨some 10, none, .slcT (.t 6) (some (.t 7)) (some (.t 9))⟩,
         ⟨some 2, none, .mv (.t 10)⟩])
       (.keep [2]
        .ret))
      .skip))
    (.keep [0, 3]
     (.seq
      (.draw [0, 1, 3, 0, 0, 16, 0, 64, 192, 504, 1023, 2047] [[0], [11], [12], [3], [0], [15], [0], [17], [18], [14, 16, 19], [13, 20], [21]] [⟨some 11, none, .mv (.t 0)⟩,
        ⟨some 12, none, .bin .quo (.t 11) (.k (.int .i64 10))⟩,
        ⟨some 13, none, .call 394 [.t 12]⟩,
        ⟨some 14, none, .mv (.t 3)⟩,
        ⟨some 15, none, .mv (.t 0)⟩,
        ⟨some 16, none, .bin .rem (.t 15) (.k (.int .i64 10))⟩,
        ⟨some 17, none, .mv (.t 0)⟩,
        ⟨some 18, none, .bin .rem (.t 17) (.k (.int .i64 10))⟩,
        ⟨some 19, none, .bin .add (.t 18) (.k (.int .i64 1))⟩,
        ⟨some 20, none, .slcT (.t 14) (some (.t 16)) (some (.t 19))⟩,
        ⟨some 21, none, .bst .add (.t 13) (.t 20)⟩,
        ⟨some 2, none, .mv (.t 21)⟩])
      (.keep [2]
       .ret)))))) }
structure N394 (R : Env) : Prop where
  o394 : R.Fn 394 c394
def c382 : IFn := { np := 1, rs := [.t 2], body :=
 (.seq
  (.ops [⟨some 1, none, .box 20 (.t 0)⟩,
    ⟨some 2, none, .mv (.k (.str []))⟩])
  (.seq
   (.draw [0, 1, 3, 7, 15, 0, 32, 103, 255, 511, 0, 1024, 3303, 8191, 16383, 0, 32768, 131071, 262143, 524287] [[1], [3], [4], [5], [6], [1], [8], [9], [7, 10], [11], [1], [13], [14], [12, 15], [16], [1], [18], [17, 19], [20], [21]] [⟨some 3, none, .fldA 0 (.t 1)⟩,
     ⟨some 4, none, .load false 1 (.t 3)⟩,
     ⟨some 5, none, .call 394 [.t 4]⟩,
     ⟨some 6, none, .bst .add (.k (.str [80, 55, 10, 87, 73, 68, 84, 72, 32])) (.t 5)⟩,
     ⟨some 7, none, .bst .add (.t 6) (.k (.str [10, 72, 69, 73, 71, 72, 84, 32]))⟩,
     ⟨some 8, none, .fldA 1 (.t 1)⟩,
     ⟨some 9, none, .load false 1 (.t 8)⟩,
     ⟨some 10, none, .call 394 [.t 9]⟩,
     ⟨some 11, none, .bst .add (.t 7) (.t 10)⟩,
     ⟨some 12, none, .bst .add (.t 11) (.k (.str [10, 68, 69, 80, 84, 72, 32]))⟩,
     ⟨some 13, none, .fldA 2 (.t 1)⟩,
     ⟨some 14, none, .load false 1 (.t 13)⟩,
     ⟨some 15, none, .call 394 [.t 14]⟩,
     ⟨some 16, none, .bst .add (.t 12) (.t 15)⟩,
     ⟨some 17, none, .bst .add (.t 16) (.k (.str [10, 77, 65, 88, 86, 65, 76, 32, 54, 53, 53, 51, 53, 10, 84, 85, 80, 76, 84, 89, 80, 69, 32]))⟩,
     ⟨some 18, none, .fldA 3 (.t 1)⟩,
     ⟨some 19, none, .load false 1 (.t 18)⟩,
     ⟨some 20, none, .bst .add (.t 17) (.t 19)⟩,
     ⟨some 21, none, .bst .add (.t 20) (.k (.str [10, 69, 78, 68, 72, 68, 82, 10]))⟩,
     ⟨some 2, none, .mv (.t 21)⟩])
   (.keep [2]
    .ret))) }
structure N382 (R : Env) : Prop where
  o382 : R.Fn 382 c382
  n394 : N394 R
def c366 : IFn := { np := 1, rs := [.t 2, .t 3], body :=
 (.seq
  (.ops [⟨some 1, none, .box 20 (.t 0)⟩,
    ⟨some 2, none, .mv (.k (.nils))⟩,
    ⟨some 3, none, .mv (.k (.int .i64 0))⟩])
  (.seq
   (.seq
    (.ops [⟨some 7, none, .load true 5 (.t 1)⟩,
      ⟨some 8, none, .call 162 [.t 7]⟩,
      ⟨some 4, none, .mv (.t 8)⟩])
    (.seq
     (.ops [⟨some 9, none, .mv (.t 4)⟩,
       ⟨some 10, none, .bin .neq (.t 9) (.k (.int .i64 0))⟩])
     (.cond (.t 10)
      (.seq
       (.ops [⟨some 11, none, .mv (.t 4)⟩,
         ⟨some 2, none, .mv (.k (.nils))⟩,
         ⟨some 3, none, .mv (.t 11)⟩])
       .ret)
      .skip)))
   (.keep [1]
    (.seq
     (.ops [⟨some 12, none, .load true 5 (.t 1)⟩,
       ⟨some 13, none, .call 382 [.t 12]⟩,
       ⟨some 14, none, .s2b 4 (.t 13)⟩,
       ⟨some 5, none, .mv (.t 14)⟩])
     (.seq
      (.seq
       (.ops [⟨some 6, none, .mv (.k (.int .i64 0))⟩])
       (.keep [1, 5, 6]
        (.block 0
         (.loop
          (.seq
           (.seq
            (.ops [⟨some 15, none, .mv (.t 6)⟩,
              ⟨some 16, none, .fldA 4 (.t 1)⟩,
              ⟨some 17, none, .load false 1 (.t 16)⟩,
              ⟨some 18, none, .lenS (.t 17)⟩,
              ⟨some 19, none, .bin .lss (.t 15) (.t 18)⟩])
            (.keep [1, 5, 6, 19]
             (.cond (.t 19)
              .skip
              (.exit 0))))
           (.keep [1, 5, 6]
            (.seq
             (.block 1
              (.draw [0, 0, 2, 0, 14, 30, 62, 126, 0, 256, 0, 1792, 3840, 7936, 16128, 32766, 65535, 131071] [[5], [1], [23], [6], [24, 25], [26], [27], [28], [1], [30], [6], [31, 32], [33], [34], [35], [29, 36], [22, 37], [38]] [⟨some 22, none, .mv (.t 5)⟩,
                ⟨some 23, none, .fldA 4 (.t 1)⟩,
                ⟨some 24, none, .load false 1 (.t 23)⟩,
                ⟨some 25, none, .mv (.t 6)⟩,
                ⟨some 26, none, .idxS 1 (.t 24) (.t 25)⟩,
                ⟨some 27, none, .load false 1 (.t 26)⟩,
                ⟨some 28, none, .bin .quo (.t 27) (.k (.int .i64 256))⟩,
                ⟨some 29, none, .conv .u8 (.t 28)⟩,
                ⟨some 30, none, .fldA 4 (.t 1)⟩,
                ⟨some 31, none, .load false 1 (.t 30)⟩,
                ⟨some 32, none, .mv (.t 6)⟩,
                ⟨some 33, none, .idxS 1 (.t 31) (.t 32)⟩,
                ⟨some 34, none, .load false 1 (.t 33)⟩,
                ⟨some 35, none, .bin .rem (.t 34) (.k (.int .i64 256))⟩,
                ⟨some 36, none, .conv .u8 (.t 35)⟩,
                ⟨some 37, none, .bslice 4 1 2 [.int .u8 0] [(0, .t 29), (1, .t 36)]⟩,
                ⟨some 38, none, .app 4 1 (.t 22) (.t 37)⟩,
                ⟨some 5, none, .mv (.t 38)⟩]))
             (.keep [1, 5, 6]
              (.ops [⟨some 20, none, .mv (.t 6)⟩,
                ⟨some 21, none, .bin .add (.t 20) (.k (.int .i64 1))⟩,
                ⟨some 6, none, .mv (.t 21)⟩])))))))))
      (.keep [5]
       (.seq
        (.ops [⟨some 39, none, .mv (.t 5)⟩,
          ⟨some 2, none, .mv (.t 39)⟩,
          ⟨some 3, none, .mv (.k (.int .i64 0))⟩])
        .ret))))))) }
structure N366 (R : Env) : Prop where
  o366 : R.Fn 366 c366
  n162 : N162 R
  n382 : N382 R
end Go.UM

namespace Go.UM
open Go.AM
def c364 : IFn := { np := 1, rs := [.cell 2 true 5], body :=
 (.seq
  (.ops [⟨some 1, none, .box 20 (.t 0)⟩,
    ⟨some 2, none, .alloc 20 [.int .i64 0, .int .i64 0, .int .i64 0, .str [], .nils]⟩])
  (.seq
   (.draw [0, 1, 0, 4, 12, 28, 63, 0, 128, 0, 512, 1536, 3584, 8064, 2047, 18431, 65535, 131071] [[1], [3], [1], [5], [6], [7], [4, 8], [1], [10], [1], [12], [13], [14], [11, 15], [1], [17, 9], [1], [18, 16]] [⟨some 3, none, .fldA 4 (.t 1)⟩,
     ⟨some 4, none, .load false 1 (.t 3)⟩,
     ⟨some 5, none, .fldA 4 (.t 1)⟩,
     ⟨some 6, none, .load false 1 (.t 5)⟩,
     ⟨some 7, none, .lenS (.t 6)⟩,
     ⟨some 8, none, .mm false [.t 7, .k (.int .i64 100)]⟩,
     ⟨some 9, none, .slcS 10 1 (.t 4) none (some (.t 8)) none⟩,
     ⟨some 10, none, .fldA 3 (.t 1)⟩,
     ⟨some 11, none, .load false 1 (.t 10)⟩,
     ⟨some 12, none, .fldA 3 (.t 1)⟩,
     ⟨some 13, none, .load false 1 (.t 12)⟩,
     ⟨some 14, none, .lenT (.t 13)⟩,
     ⟨some 15, none, .mm false [.t 14, .k (.int .i64 20)]⟩,
     ⟨some 16, none, .slcT (.t 11) none (some (.t 15))⟩,
     ⟨some 17, none, .fldA 4 (.t 1)⟩,
     ⟨none, none, .store 1 (.t 17) (.t 9)⟩,
     ⟨some 18, none, .fldA 3 (.t 1)⟩,
     ⟨none, none, .store 1 (.t 18) (.t 16)⟩])
   (.keep [1, 2]
    (.seq
     (.ops [⟨some 19, none, .load true 5 (.t 1)⟩,
       ⟨none, none, .store 5 (.t 2) (.t 19)⟩])
     .ret)))) }
structure N364 (R : Env) : Prop where
  o364 : R.Fn 364 c364
def c367 : IFn := { np := 0, rs := [.t 0], body :=
 (.seq
  (.ops [⟨some 0, none, .mv (.k (.bool false))⟩])
  (.seq
   (.ops [⟨some 4, none, .bslice 10 1 1 [.int .i64 0] [(0, .k (.int .i64 258))]⟩,
     ⟨some 5, none, .build [.int .i64 0, .int .i64 0, .int .i64 0, .str [], .nils] [(0, 1, .k (.int .i64 1)), (1, 1, .k (.int .i64 1)), (2, 1, .k (.int .i64 1)), (3, 1, .k (.str [65])), (4, 1, .t 4)]⟩,
     ⟨some 6, none, .call 365 [.t 5]⟩,
     ⟨some 3, none, .mv (.t 6)⟩,
     ⟨some 7, none, .ext (.t 3) 0⟩,
     ⟨some 8, none, .ext (.t 3) 1⟩,
     ⟨some 1, none, .mv (.t 7)⟩,
     ⟨some 2, none, .mv (.t 8)⟩])
   (.keep [1, 2]
    (.seq
     (.ops [⟨some 9, none, .mv (.t 2)⟩,
       ⟨some 10, none, .bin .eql (.t 9) (.k (.int .i64 0))⟩,
       ⟨some 11, none, .mv (.t 10)⟩,
       ⟨some 12, some (11, true), .mv (.t 1)⟩,
       ⟨some 13, some (11, true), .b2s (.t 12)⟩,
       ⟨some 14, some (11, true), .bst .eql (.t 13) (.k (.str [80, 55, 10, 87, 73, 68, 84, 72, 32, 49, 10, 72, 69, 73, 71, 72, 84, 32, 49, 10, 68, 69, 80, 84, 72, 32, 49, 10, 77, 65, 88, 86, 65, 76, 32, 54, 53, 53, 51, 53, 10, 84, 85, 80, 76, 84, 89, 80, 69, 32, 65, 10, 69, 78, 68, 72, 68, 82, 10, 1, 2]))⟩,
       ⟨some 15, none, .pick (.t 11) (.t 14) (.k (.bool false))⟩,
       ⟨some 0, none, .mv (.t 15)⟩])
     (.keep [0]
      .ret))))) }
structure N367 (R : Env) : Prop where
  o367 : R.Fn 367 c367
  n365 : N365 R
def c363 : IFn := { np := 1, rs := [.t 2], body :=
 (.seq
  (.ops [⟨some 1, none, .box 20 (.t 0)⟩,
    ⟨some 2, none, .mv (.k (.bool false))⟩])
  (.seq
   (.ops [⟨some 7, none, .load true 5 (.t 1)⟩,
     ⟨some 8, none, .call 364 [.t 7]⟩,
     ⟨none, none, .store 5 (.t 1) (.t 8)⟩])
   (.seq
    (.ops [⟨some 10, none, .load true 5 (.t 1)⟩,
      ⟨some 11, none, .call 365 [.t 10]⟩,
      ⟨some 9, none, .mv (.t 11)⟩,
      ⟨some 12, none, .ext (.t 9) 0⟩,
      ⟨some 13, none, .ext (.t 9) 1⟩,
      ⟨some 3, none, .mv (.t 12)⟩,
      ⟨some 4, none, .mv (.t 13)⟩])
    (.keep [1, 3, 4]
     (.seq
      (.ops [⟨some 15, none, .load true 5 (.t 1)⟩,
        ⟨some 16, none, .call 366 [.t 15]⟩,
        ⟨some 14, none, .mv (.t 16)⟩,
        ⟨some 17, none, .ext (.t 14) 0⟩,
        ⟨some 18, none, .ext (.t 14) 1⟩,
        ⟨some 5, none, .mv (.t 17)⟩,
        ⟨some 6, none, .mv (.t 18)⟩])
      (.keep [1, 3, 4, 5, 6]
       (.seq
        (.draw [0, 1, 0, 7, 15, 31, 63, 63, 255, 511, 1023, 2047, 2047, 8191, 16383, 32767, 65535, 131071, 262143] [[1], [19], [1], [21], [20, 22], [23], [3], [5], [25, 26], [24, 27], [28], [4], [6], [30, 31], [29, 32], [33], [], [34, 35], [36]] [⟨some 19, none, .load true 5 (.t 1)⟩,
          ⟨some 20, none, .call 153 [.t 19]⟩,
          ⟨some 21, none, .load true 5 (.t 1)⟩,
          ⟨some 22, none, .call 162 [.t 21]⟩,
          ⟨some 23, none, .bin .eql (.t 20) (.t 22)⟩,
          ⟨some 24, none, .mv (.t 23)⟩,
          ⟨some 25, some (24, true), .mv (.t 3)⟩,
          ⟨some 26, some (24, true), .mv (.t 5)⟩,
          ⟨some 27, some (24, true), .call 47 [.t 25, .t 26]⟩,
          ⟨some 28, none, .pick (.t 24) (.t 27) (.k (.bool false))⟩,
          ⟨some 29, none, .mv (.t 28)⟩,
          ⟨some 30, some (29, true), .mv (.t 4)⟩,
          ⟨some 31, some (29, true), .mv (.t 6)⟩,
          ⟨some 32, some (29, true), .bin .eql (.t 30) (.t 31)⟩,
          ⟨some 33, none, .pick (.t 29) (.t 32) (.k (.bool false))⟩,
          ⟨some 34, none, .mv (.t 33)⟩,
          ⟨some 35, some (34, true), .call 367 []⟩,
          ⟨some 36, none, .pick (.t 34) (.t 35) (.k (.bool false))⟩,
          ⟨some 2, none, .mv (.t 36)⟩])
        (.keep [2]
         .ret)))))))) }
structure N363 (R : Env) : Prop where
  o363 : R.Fn 363 c363
  n47 : N47 R
  n153 : N153 R
  n162 : N162 R
  n364 : N364 R
  n365 : N365 R
  n366 : N366 R
  n367 : N367 R
end Go.UM

namespace Go.UM
open Go.AM
set_option pp.maxSteps 700
structure Mf where
  (id kind label m0 m1 m2 m3 m4 m5 m6 m7 first last size chunks : Int)
def Mf.row (m : Mf) : List AV := [.int .u64 m.id, .int .i64 m.kind, .int .u32 m.label, .int .u8 m.m0, .int .u8 m.m1, .int .u8 m.m2, .int .u8 m.m3, .int .u8 m.m4, .int .u8 m.m5, .int .u8 m.m6, .int .u8 m.m7,
  .int .u32 m.first, .int .u32 m.last, .int .i64 m.size, .int .i64 m.chunks]
def Mf.mask (m : Mf) : Nat → Int
  | 0 => m.m0 | 1 => m.m1 | 2 => m.m2 | 3 => m.m3 | 4 => m.m4 | 5 => m.m5 | 6 => m.m6 | 7 => m.m7 | _ => 0
structure Mf.Ok (m : Mf) : Prop where
  id : inI .u64 m.id
  kind : inI .i64 m.kind
  label : inI .u32 m.label
  mask : ∀ i, 0 ≤ m.mask i ∧ m.mask i ≤ 255
  first : inI .u32 m.first
  last : inI .u32 m.last
  size : inI .i64 m.size
  chunks : inI .i64 m.chunks
end Go.UM

namespace Go.UM
open Go.AM
set_option pp.maxSteps 700
def u8 (n : Int) : UInt8 := UInt8.ofNat (n % 256).toNat
theorem wr_u8 (n : Int) : wr .u8 n = ((u8 n).toNat : Int) := by
  have h1 : 0 ≤ n % 256 := Int.emod_nonneg _ (by decide)
  have h2 : n % 256 < 256 := Int.emod_lt_of_pos _ (by decide)
  simp only [wr, IntKind.wrap, IntKind.bits, IntKind.signed, u8]
  simp
  omega
theorem u8_mod (n : Int) : u8 (n % 256) = u8 n := by unfold u8; rw [Int.emod_emod_of_dvd n (Int.dvd_refl 256)]
theorem u8_in {n : Int} (h : 0 ≤ n ∧ n ≤ 255) : ((u8 n).toNat : Int) = n := by rw [← wr_u8, wr_in (k := .u8) h]
def slc8 (l : List UInt8) : List (List AV) := l.map fun c => [.int .u8 c.toNat]
def slcK (k : IntKind) (l : List Int) : List (List AV) := l.map fun x => [.int k x]
@[simp] theorem slc8_nil : slc8 [] = [] := rfl
@[simp] theorem slc8_length (l : List UInt8) : (slc8 l).length = l.length := by simp [slc8]
@[simp] theorem slc8_append (a b : List UInt8) : slc8 (a ++ b) = slc8 a ++ slc8 b := by simp [slc8]
@[simp] theorem slc8_one (n : Int) : [[AV.int .u8 (wr .u8 n)]] = slc8 [u8 n] := by simp [slc8, wr_u8]
@[simp] theorem slcK_nil (k : IntKind) : slcK k [] = [] := rfl
@[simp] theorem slcK_length (k : IntKind) (l : List Int) : (slcK k l).length = l.length := by simp [slcK]
@[simp] theorem slcK_append (k : IntKind) (a b : List Int) : slcK k (a ++ b) = slcK k a ++ slcK k b := by simp [slcK]
@[simp] theorem slc8_NmL (l : List UInt8) : NmL (slc8 l) := by simp [slc8]
@[simp] theorem slcK_NmL (k : IntKind) (l : List Int) : NmL (slcK k l) := by simp [slcK]
instance {l : List UInt8} : LenOf (slc8 l) l.length := ⟨slc8_length l⟩
instance {k : IntKind} {l : List Int} : LenOf (slcK k l) l.length := ⟨slcK_length k l⟩
@[simp] theorem mem_slc8 {e : List AV} {l : List UInt8} : e ∈ slc8 l ↔ ∃ c, c ∈ l ∧ [AV.int .u8 c.toNat] = e := by simp [slc8]
@[simp] theorem mem_slcK {k : IntKind} {e : List AV} {l : List Int} : e ∈ slcK k l ↔ ∃ c, c ∈ l ∧ [AV.int k c] = e := by simp [slcK]
theorem slc8_take (l : List UInt8) (k : Nat) : (slc8 l).take k = slc8 (l.take k) := by simp [slc8, List.map_take]
theorem slc8_drop (l : List UInt8) (k : Nat) : (slc8 l).drop k = slc8 (l.drop k) := by simp [slc8, List.map_drop]
theorem slcK_take (k' : IntKind) (l : List Int) (k : Nat) : (slcK k' l).take k = slcK k' (l.take k) := by simp [slcK, List.map_take]
theorem slcK_drop (k' : IntKind) (l : List Int) (k : Nat) : (slcK k' l).drop k = slcK k' (l.drop k) := by simp [slcK, List.map_drop]
theorem take_succ_get {α : Type} {l : List α} {k : Nat} {x : α} (h : l[k]? = some x) : l.take (k + 1) = l.take k ++ [x] := by
  rw [List.take_add_one, h]; rfl
theorem shr_eq {k : IntKind} {x y : Int} (hx : 0 ≤ x) : shrI k x y = x / 2 ^ (min y.toNat k.bits) := by
  unfold shrI
  rw [Int.fdiv_eq_ediv_of_nonneg]
  exact Int.le_of_lt (Int.pow_pos (by decide))
theorem aS8 {s : List UInt8} {K : List UInt8 → Prop} (k : K s) : AStr (slc8 s) K := ⟨⟨s, rfl, k⟩⟩
theorem take_cap {α : Type} (l : List α) (m : Int) : l.take (min (l.length : Int) m).toNat = l.take m.toNat := by
  by_cases h : (l.length : Int) ≤ m
  · rw [show (min (l.length : Int) m).toNat = l.length by omega, List.take_of_length_le (Nat.le_refl _), List.take_of_length_le (by omega)]
  · rw [show (min (l.length : Int) m).toNat = m.toNat by omega]
instance {l : List UInt8} {k : Nat} : TkOf ((slc8 l).take k) (slc8 (l.take k)) := ⟨slc8_take l k⟩
instance {l : List UInt8} {k : Nat} : TkOf ((slc8 l).drop k) (slc8 (l.drop k)) := ⟨slc8_drop l k⟩
instance {l : List UInt8} {k j : Nat} : TkOf (((slc8 l).take k).drop j) (slc8 ((l.take k).drop j)) := ⟨by rw [slc8_take, slc8_drop]⟩
instance {kk : IntKind} {l : List Int} {k : Nat} : TkOf ((slcK kk l).take k) (slcK kk (l.take k)) := ⟨slcK_take kk l k⟩
instance {kk : IntKind} {l : List Int} {k : Nat} : TkOf ((slcK kk l).drop k) (slcK kk (l.drop k)) := ⟨slcK_drop kk l k⟩
instance {kk : IntKind} {l : List Int} {k j : Nat} : TkOf (((slcK kk l).take k).drop j) (slcK kk ((l.take k).drop j)) := ⟨by rw [slcK_take, slcK_drop]⟩
end Go.UM

namespace Go.UM
open Go.AM
set_option pp.maxSteps 700
set_option maxRecDepth 4000
structure Pl where
  (w h deep : Int)
  name : List UInt8
  data : List Int
def Pl.row (p : Pl) : List AV := [.int .i64 p.w, .int .i64 p.h, .int .i64 p.deep, .str p.name, .isl 1 (slcK .i64 p.data)]
theorem between_c {R : Env} (h : N157 R) (x a b : Int) : R.Pc 157 [.int .i64 x, .int .i64 a, .int .i64 b] (.bool (decide (a ≤ x) && decide (x ≤ b))) :=
  h.o157.enter 60 rfl fun X bb hfit hp => by
    refine sh ?_
    refine cS (fun h1 => ?_) (fun h1 => ?_)
    · refine sh ?_
      refine rT ?_
      all_goals repeat' (first | exact True.intro | refine And.intro ?_ ?_ | (intro _u; clear _u) | (with_reducible first | refine eM ?_ ?_ | refine eF ?_ ?_ ?_ | refine eN ?_ | refine eL ?_ ?_ ?_ | refine eA ?_ ?_ | refine IWk.mk ⟨_, hp, rfl⟩ ?_ ?_) | refine IWk.mk ⟨_, hp, rfl⟩ ?_ ?_)
      all_goals first | with_reducible rfl | omega | exact Or.inl (by decide) | (simp; done) | rfl | skip
      simp [h1]
    · refine sh ?_
      refine rT ?_
      all_goals repeat' (first | exact True.intro | refine And.intro ?_ ?_ | (intro _u; clear _u) | (with_reducible first | refine eM ?_ ?_ | refine eF ?_ ?_ ?_ | refine eN ?_ | refine eL ?_ ?_ ?_ | refine eA ?_ ?_ | refine IWk.mk ⟨_, hp, rfl⟩ ?_ ?_) | refine IWk.mk ⟨_, hp, rfl⟩ ?_ ?_)
      all_goals first | with_reducible rfl | omega | exact Or.inl (by decide) | (simp; done) | rfl | skip
      simp; omega
theorem all_bad {α : Type} {l : List α} {k : Nat} {x : α} {p : α → Bool} (h : l[k]? = some x) (hx : p x = false) : l.all p = false := by
  rw [List.all_eq_false]
  exact ⟨x, List.mem_of_getElem? h, by rw [hx]; simp⟩
theorem all_take_succ {α : Type} {l : List α} {k : Nat} {x : α} {p : α → Bool} (h : l[k]? = some x) : (l.take (k + 1)).all p = ((l.take k).all p && p x) := by
  rw [take_succ_get h, List.all_append]; simp
def upper (c : UInt8) : Bool := decide (65 ≤ c.toNat) && decide (c.toNat ≤ 90)
def named (s : List UInt8) : Bool := s.all upper && (decide (1 ≤ (s.length : Int)) && decide ((s.length : Int) ≤ 16))
theorem named_c {R : Env} (h : N158 R) (s : List UInt8) (hs : s.length ≤ 1073741824) : R.Pc 158 [.str s] (.bool (named s)) :=
  h.o158.enter 60 rfl fun X bb hfit hp => by
    refine sh ?_
    refine lPa 60 (fun k : Nat => k ≤ s.length ∧ (s.take k).all upper = true) (fun k => ⟨[(0, .str s), (6, .osl 0 s.length), (7, .int .i64 s.length), (8, .int .i64 k)], [(0, .arr (R.ty 4) 1 (slc8 s))], 1⟩) (fun k => s.length - k) (0) ?_ ?_
    · exact ⟨Nat.zero_le _, by simp⟩
    · intro k hk
      dsimp only
      refine sh ?_
      refine cS (fun h1 => ?_) (fun h1 => ?_)
      · obtain ⟨x, hx⟩ : ∃ u_, s[k]? = some u_ := ⟨_, List.getElem?_eq_getElem (by first | omega | (simp <;> omega))⟩
        refine sh ?_
        refine aelt_map (by simp) hx ?_
        have hx8 := x.toNat_lt
        refine sh ?_
        refine cS (fun h2 => ?_) (fun h2 => ?_)
        · refine sh ?_
          refine rT ?_
          all_goals repeat' (first | exact True.intro | refine And.intro ?_ ?_ | (intro _u; clear _u) | (with_reducible first | refine eM ?_ ?_ | refine eF ?_ ?_ ?_ | refine eN ?_ | refine eL ?_ ?_ ?_ | refine eA ?_ ?_ | refine IWk.mk ⟨_, hp, rfl⟩ ?_ ?_) | refine IWk.mk ⟨_, hp, rfl⟩ ?_ ?_)
          all_goals first | with_reducible rfl | omega | exact Or.inl (by decide) | (simp; done) | rfl | skip
          have hno : upper x = false := by simp [upper]; omega
          simp [named, all_bad hx hno]
        · refine sh ?_
          refine cS (fun h3 => ?_) (fun h3 => ?_)
          · refine sh ?_
            refine rT ?_
            all_goals repeat' (first | exact True.intro | refine And.intro ?_ ?_ | (intro _u; clear _u) | (with_reducible first | refine eM ?_ ?_ | refine eF ?_ ?_ ?_ | refine eN ?_ | refine eL ?_ ?_ ?_ | refine eA ?_ ?_ | refine IWk.mk ⟨_, hp, rfl⟩ ?_ ?_) | refine IWk.mk ⟨_, hp, rfl⟩ ?_ ?_)
            all_goals first | with_reducible rfl | omega | exact Or.inl (by decide) | (simp; done) | rfl | skip
            have hno : upper x = false := by simp [upper]; omega
            simp [named, all_bad hx hno]
          · refine sh ?_
            refine nXa (k + 1) ?_ ?_
            · refine ⟨by omega, ?_⟩
              have hyes : upper x = true := by simp [upper]; omega
              rw [all_take_succ hx, hk.2, hyes]; rfl
            · omega
      · have hk2 := hk.2
        rw [List.take_of_length_le (by omega)] at hk2
        refine sh ?_
        refine ICall.pure h.n157.o157.hb (between_c h.n157 s.length 1 16) rfl ?_
        refine sh ?_
        refine rT ?_
        all_goals repeat' (first | exact True.intro | refine And.intro ?_ ?_ | (intro _u; clear _u) | (with_reducible first | refine eM ?_ ?_ | refine eF ?_ ?_ ?_ | refine eN ?_ | refine eL ?_ ?_ ?_ | refine eA ?_ ?_ | refine IWk.mk ⟨_, hp, rfl⟩ ?_ ?_) | refine IWk.mk ⟨_, hp, rfl⟩ ?_ ?_)
        all_goals first | with_reducible rfl | omega | exact Or.inl (by decide) | (simp; done) | rfl | skip
        simp [named, hk2]
def pchk (p : Pl) : Int :=
  if ¬ (1 ≤ p.w ∧ p.w ≤ 64) ∨ ¬ (1 ≤ p.h ∧ p.h ≤ 64) ∨ ¬ (1 ≤ p.deep ∧ p.deep ≤ 4) then 2
  else if named p.name = false ∨ (p.data.length : Int) ≠ p.w * p.h * p.deep then 5
  else if p.data.all (fun x => decide (0 ≤ x) && decide (x ≤ 65535)) = false then 5 else 0
theorem pcheck_c {R : Env} (h : N153 R) (p : Pl) (hs : p.name.length ≤ 1073741824) : R.Pc 153 [.agg p.row] (.int .i64 (pchk p)) :=
  h.o153.enter 60 rfl fun X bb hfit hp => by
    refine sh ?_
    refine ICall.pure h.n157.o157.hb (between_c h.n157 p.w 1 64) rfl ?_
    refine sh ?_
    refine cS (fun h1 => ?_) (fun h1 => ?_)
    · refine sh ?_
      refine rT ?_
      all_goals repeat' (first | exact True.intro | refine And.intro ?_ ?_ | (intro _u; clear _u) | (with_reducible first | refine eM ?_ ?_ | refine eF ?_ ?_ ?_ | refine eN ?_ | refine eL ?_ ?_ ?_ | refine eA ?_ ?_ | refine IWk.mk ⟨_, hp, rfl⟩ ?_ ?_) | refine IWk.mk ⟨_, hp, rfl⟩ ?_ ?_)
      all_goals first | with_reducible rfl | omega | exact Or.inl (by decide) | (simp; done) | rfl | skip
      unfold pchk; rw [if_pos (.inl (by simp at h1 ⊢; omega))]
    · refine sh ?_
      refine ICall.pure h.n157.o157.hb (between_c h.n157 p.h 1 64) rfl ?_
      refine sh ?_
      refine cS (fun h2 => ?_) (fun h2 => ?_)
      · refine sh ?_
        refine rT ?_
        all_goals repeat' (first | exact True.intro | refine And.intro ?_ ?_ | (intro _u; clear _u) | (with_reducible first | refine eM ?_ ?_ | refine eF ?_ ?_ ?_ | refine eN ?_ | refine eL ?_ ?_ ?_ | refine eA ?_ ?_ | refine IWk.mk ⟨_, hp, rfl⟩ ?_ ?_) | refine IWk.mk ⟨_, hp, rfl⟩ ?_ ?_)
        all_goals first | with_reducible rfl | omega | exact Or.inl (by decide) | (simp; done) | rfl | skip
        unfold pchk; rw [if_pos (.inr (.inl (by simp at h2 ⊢; omega)))]
      · refine sh ?_
        refine ICall.pure h.n157.o157.hb (between_c h.n157 p.deep 1 4) rfl ?_
        refine sh ?_
        refine cS (fun h3 => ?_) (fun h3 => ?_)
        · refine sh ?_
          refine rT ?_
          all_goals repeat' (first | exact True.intro | refine And.intro ?_ ?_ | (intro _u; clear _u) | (with_reducible first | refine eM ?_ ?_ | refine eF ?_ ?_ ?_ | refine eN ?_ | refine eL ?_ ?_ ?_ | refine eA ?_ ?_ | refine IWk.mk ⟨_, hp, rfl⟩ ?_ ?_) | refine IWk.mk ⟨_, hp, rfl⟩ ?_ ?_)
          all_goals first | with_reducible rfl | omega | exact Or.inl (by decide) | (simp; done) | rfl | skip
          unfold pchk; rw [if_pos (.inr (.inr (by simp at h3 ⊢; omega)))]
        · have hw : 1 ≤ p.w ∧ p.w ≤ 64 := by simp at h1; omega
          have hh : 1 ≤ p.h ∧ p.h ≤ 64 := by simp at h2; omega
          have hd : 1 ≤ p.deep ∧ p.deep ≤ 4 := by simp at h3; omega
          have e0 : pchk p = if named p.name = false ∨ (p.data.length : Int) ≠ p.w * p.h * p.deep then 5 else if p.data.all (fun x => decide (0 ≤ x) && decide (x ≤ 65535)) = false then 5 else 0 := by
            unfold pchk; rw [if_neg (by omega)]
          rw [e0]
          refine sh ?_
          refine ICall.pure h.n158.o158.hb (named_c h.n158 p.name hs) rfl ?_
          have b1 : 0 ≤ p.w * p.h ∧ p.w * p.h ≤ 4096 := ⟨Int.mul_nonneg (by omega) (by omega), by have := Int.mul_le_mul hw.2 hh.2 (by omega) (by omega); omega⟩
          have b2 : 0 ≤ p.w * p.h * p.deep ∧ p.w * p.h * p.deep ≤ 16384 := ⟨Int.mul_nonneg b1.1 (by omega), by have := Int.mul_le_mul b1.2 hd.2 (by omega) (by omega); omega⟩
          cases hn : named p.name with
          | false =>
            refine sh ?_
            exact rT
          | true =>
            refine sh ?_
            refine cS (fun h4 => ?_) (fun h4 => ?_)
            · refine sh ?_
              exact rT
            · rw [if_neg (by simp; omega)]
              refine sh ?_
              refine lPa 60 (fun k : Nat => k ≤ p.data.length ∧ (p.data.take k).all (fun x => decide (0 ≤ x) && decide (x ≤ 65535)) = true) (fun k => ⟨[(40, .isl 1 (slcK .i64 p.data)), (41, .int .i64 p.data.length), (42, .int .i64 k)], [], 1⟩) (fun k => p.data.length - k) (0) ?_ ?_
              · exact ⟨Nat.zero_le _, by simp⟩
              · intro k hk
                dsimp only
                refine sh ?_
                refine cS (fun h5 => ?_) (fun h5 => ?_)
                · obtain ⟨x, hx⟩ : ∃ u_, p.data[k]? = some u_ := ⟨_, List.getElem?_eq_getElem (by first | omega | (simp <;> omega))⟩
                  refine sh ?_
                  refine eget_map hx ?_
                  refine sh ?_
                  refine ICall.pure h.n157.o157.hb (between_c h.n157 x 0 65535) rfl ?_
                  refine sh ?_
                  refine cS (fun h6 => ?_) (fun h6 => ?_)
                  · refine sh ?_
                    refine rT ?_
                    all_goals repeat' (first | exact True.intro | refine And.intro ?_ ?_ | (intro _u; clear _u) | (with_reducible first | refine eM ?_ ?_ | refine eF ?_ ?_ ?_ | refine eN ?_ | refine eL ?_ ?_ ?_ | refine eA ?_ ?_ | refine IWk.mk ⟨_, hp, rfl⟩ ?_ ?_) | refine IWk.mk ⟨_, hp, rfl⟩ ?_ ?_)
                    all_goals first | with_reducible rfl | omega | exact Or.inl (by decide) | (simp; done) | rfl | skip
                    rw [if_pos (all_bad hx (by simpa using h6))]
                  · refine sh ?_
                    refine nXa (k + 1) ?_ ?_
                    · refine ⟨by omega, ?_⟩
                      rw [all_take_succ hx, hk.2]; simpa using h6
                    · omega
                · have hk2 := hk.2
                  rw [List.take_of_length_le (by omega)] at hk2
                  rw [if_neg (by rw [hk2]; decide)]
                  refine sh ?_
                  exact rT
end Go.UM

namespace Go.UM
open Go.AM
set_option pp.maxSteps 700
set_option maxRecDepth 4000
theorem pchk_2 {p : Pl} (h : ¬ (1 ≤ p.w ∧ p.w ≤ 64) ∨ ¬ (1 ≤ p.h ∧ p.h ≤ 64) ∨ ¬ (1 ≤ p.deep ∧ p.deep ≤ 4)) : pchk p = 2 := by unfold pchk; rw [if_pos h]
theorem pchk_n {p : Pl} (h : ¬ (¬ (1 ≤ p.w ∧ p.w ≤ 64) ∨ ¬ (1 ≤ p.h ∧ p.h ≤ 64) ∨ ¬ (1 ≤ p.deep ∧ p.deep ≤ 4))) (h2 : named p.name = false ∨ (p.data.length : Int) ≠ p.w * p.h * p.deep) : pchk p = 5 := by unfold pchk; rw [if_neg h, if_pos h2]
def px (x : Int) : Bool := decide (0 ≤ x) && decide (x ≤ 65535)
theorem pchk_d {p : Pl} (h : ¬ (¬ (1 ≤ p.w ∧ p.w ≤ 64) ∨ ¬ (1 ≤ p.h ∧ p.h ≤ 64) ∨ ¬ (1 ≤ p.deep ∧ p.deep ≤ 4))) (h2 : ¬ (named p.name = false ∨ (p.data.length : Int) ≠ p.w * p.h * p.deep)) : pchk p = if p.data.all px = false then 5 else 0 := by unfold pchk; rw [if_neg h, if_neg h2]; rfl
theorem rpcheck_c {R : Env} (h : N162 R) (p : Pl) (hs : p.name.length ≤ 1073741824) : R.Pc 162 [.agg p.row] (.int .i64 (pchk p)) :=
  h.o162.enter 100 rfl fun X bb hfit hp => by
    generalize hq : pchk p = q
    refine sh ?_
    refine cS (fun h1 => ?_) (fun h1 => ?_)
    · rw [pchk_2 (by omega)] at hq
      subst hq
      refine sh ?_
      exact rT
    · refine sh ?_
      refine cS (fun h2 => ?_) (fun h2 => ?_)
      · rw [pchk_2 (by omega)] at hq
        subst hq
        refine sh ?_
        exact rT
      · refine sh ?_
        refine cS (fun h3 => ?_) (fun h3 => ?_)
        · rw [pchk_2 (by omega)] at hq
          subst hq
          refine sh ?_
          exact rT
        · refine sh ?_
          refine cS (fun h4 => ?_) (fun h4 => ?_)
          · rw [pchk_2 (by omega)] at hq
            subst hq
            refine sh ?_
            exact rT
          · refine sh ?_
            refine cS (fun h5 => ?_) (fun h5 => ?_)
            · rw [pchk_2 (by omega)] at hq
              subst hq
              refine sh ?_
              exact rT
            · refine sh ?_
              refine cS (fun h6 => ?_) (fun h6 => ?_)
              · rw [pchk_2 (by omega)] at hq
                subst hq
                refine sh ?_
                exact rT
              · have hin : ¬ (¬ (1 ≤ p.w ∧ p.w ≤ 64) ∨ ¬ (1 ≤ p.h ∧ p.h ≤ 64) ∨ ¬ (1 ≤ p.deep ∧ p.deep ≤ 4)) := by omega
                have b1 : 0 ≤ p.w * p.h ∧ p.w * p.h ≤ 4096 := ⟨Int.mul_nonneg (by omega) (by omega), by have := Int.mul_le_mul h2 h4 (by omega) (by omega); omega⟩
                have b2 : 0 ≤ p.w * p.h * p.deep ∧ p.w * p.h * p.deep ≤ 16384 := ⟨Int.mul_nonneg b1.1 (by omega), by have := Int.mul_le_mul b1.2 h6 (by omega) (by omega); omega⟩
                have hnl : ¬ (1 ≤ (p.name.length : Int) ∧ (p.name.length : Int) ≤ 16) → named p.name = false := fun hh => by
                  simp [named]; omega
                refine sh ?_
                refine cS (fun h7 => ?_) (fun h7 => ?_)
                · rw [pchk_n hin (.inl (hnl (by omega)))] at hq
                  subst hq
                  refine sh ?_
                  exact rT
                · refine sh ?_
                  refine cS (fun h8 => ?_) (fun h8 => ?_)
                  · rw [pchk_n hin (.inl (hnl (by omega)))] at hq
                    subst hq
                    refine sh ?_
                    exact rT
                  · refine sh ?_
                    refine cS (fun h9 => ?_) (fun h9 => ?_)
                    · rw [pchk_n hin (.inr h9)] at hq
                      subst hq
                      refine sh ?_
                      exact rT
                    · refine sh ?_
                      refine lPa 100 (fun k : Nat => k ≤ p.name.length ∧ (p.name.take k).all upper = true) (fun k => ⟨[(1, .loc 0 1 0 0), (3, .int .i64 k)], [(0, .var (R.ty 20) p.row)], 1⟩) (fun k => p.name.length - k) (0) ?_ ?_
                      · exact ⟨Nat.zero_le _, by simp⟩
                      · intro k hk
                        dsimp only
                        refine sh ?_
                        refine cS (fun ha => ?_) (fun ha => ?_)
                        · obtain ⟨x, hx⟩ : ∃ u, p.name[k]? = some u := ⟨_, List.getElem?_eq_getElem (by omega)⟩
                          have hgx : p.name.getD ((k : Int)).toNat 0 = x := by simp [List.getD_eq_getElem?_getD, hx]
                          have hx8 := x.toNat_lt
                          refine st ?_
                          rw [hgx]
                          refine sh ?_
                          refine cS (fun hb => ?_) (fun hb => ?_)
                          · have hno : upper x = false := by simp [upper]; omega
                            rw [pchk_n hin (.inl (by simp [named, all_bad hx hno]))] at hq
                            subst hq
                            refine sh ?_
                            exact rT
                          · refine st ?_
                            rw [hgx]
                            refine sh ?_
                            refine cS (fun hc => ?_) (fun hc => ?_)
                            · have hno : upper x = false := by simp [upper]; omega
                              rw [pchk_n hin (.inl (by simp [named, all_bad hx hno]))] at hq
                              subst hq
                              refine sh ?_
                              exact rT
                            · refine sh ?_
                              refine nXa (k + 1) ?_ ?_
                              · refine ⟨by omega, ?_⟩
                                have hyes : upper x = true := by simp [upper]; omega
                                rw [all_take_succ hx, hk.2, hyes]; rfl
                              · omega
                        · have hk2 := hk.2
                          rw [List.take_of_length_le (by omega)] at hk2
                          have hnm : named p.name = true := by simp [named, hk2]; omega
                          rw [pchk_d hin (by rw [hnm]; simp; exact h9)] at hq
                          refine sh ?_
                          refine lPa 100 (fun k : Nat => k ≤ p.data.length ∧ (p.data.take k).all px = true) (fun k => ⟨[(1, .loc 0 1 0 0), (4, .int .i64 k)], [(0, .var (R.ty 20) p.row)], 1⟩) (fun k => p.data.length - k) (0) ?_ ?_
                          · exact ⟨Nat.zero_le _, by simp⟩
                          · intro k hk
                            dsimp only
                            refine sh ?_
                            refine cS (fun hb => ?_) (fun hb => ?_)
                            · obtain ⟨x, hx⟩ : ∃ u_, p.data[k]? = some u_ := ⟨_, List.getElem?_eq_getElem (by first | omega | (simp <;> omega))⟩
                              refine sh ?_
                              refine eget_map hx ?_
                              refine sh ?_
                              refine cS (fun hc => ?_) (fun hc => ?_)
                              · rw [if_pos (all_bad hx (by simp [px]; omega))] at hq
                                subst hq
                                refine sh ?_
                                exact rT
                              · refine sh ?_
                                refine eget_map hx ?_
                                refine sh ?_
                                refine cS (fun hd => ?_) (fun hd => ?_)
                                · rw [if_pos (all_bad hx (by simp [px]; omega))] at hq
                                  subst hq
                                  refine sh ?_
                                  exact rT
                                · refine sh ?_
                                  refine nXa (k + 1) ?_ ?_
                                  · refine ⟨by omega, ?_⟩
                                    have hyes : px x = true := by simp [px]; omega
                                    rw [all_take_succ hx, hk.2, hyes]; rfl
                                  · omega
                            · have hk3 := hk.2
                              rw [List.take_of_length_le (by omega)] at hk3
                              rw [if_neg (by rw [hk3]; decide)] at hq
                              subst hq
                              refine sh ?_
                              exact rT
end Go.UM

namespace Go.UM
open Go.AM
set_option pp.maxSteps 700
structure T3 where
  (a b c : Int)
def t3 (x : T3) : List AV := [.int .i64 x.a, .int .i64 x.b, .int .i64 x.c]
def slc3 (l : List T3) : List (List AV) := l.map t3
@[simp] theorem slc3_nil : slc3 [] = [] := rfl
@[simp] theorem slc3_length (l : List T3) : (slc3 l).length = l.length := by simp [slc3]
@[simp] theorem slc3_append (a b : List T3) : slc3 (a ++ b) = slc3 a ++ slc3 b := by simp [slc3]
@[simp] theorem slc3_NmL (l : List T3) : NmL (slc3 l) := by simp [slc3, t3]
theorem slc3_take (l : List T3) (k : Nat) : (slc3 l).take k = slc3 (l.take k) := by simp [slc3, List.map_take]
theorem slc3_drop (l : List T3) (k : Nat) : (slc3 l).drop k = slc3 (l.drop k) := by simp [slc3, List.map_drop]
instance {l : List T3} : LenOf (slc3 l) l.length := ⟨slc3_length l⟩
instance {l : List T3} {k : Nat} : TkOf ((slc3 l).take k) (slc3 (l.take k)) := ⟨slc3_take l k⟩
instance {l : List T3} {k : Nat} : TkOf ((slc3 l).drop k) (slc3 (l.drop k)) := ⟨slc3_drop l k⟩
end Go.UM

namespace Go.UM
open Go.AM
set_option pp.maxSteps 700
set_option maxRecDepth 4000
structure Im where
  (w h : Int)
  be : List T3
  (al de : List Int)
  no : List T3
  (as la : List Int)
def Im.row (i : Im) : List AV := [.int .i64 i.w, .int .i64 i.h, .isl 3 (slc3 i.be), .isl 1 (slcK .i64 i.al), .isl 1 (slcK .i64 i.de), .isl 3 (slc3 i.no), .isl 1 (slcK .i64 i.as), .isl 1 (slcK .i64 i.la)]
def fl3 (l : List T3) : List Int := l.flatMap fun t => [t.a, t.b, t.c]
def nmA : List UInt8 := [65, 76, 80, 72, 65]
def nmD : List UInt8 := [68, 69, 80, 84, 72]
def nmN : List UInt8 := [78, 79, 82, 77, 65, 76]
def nmS : List UInt8 := [65, 83, 83, 69, 84]
def Im.p1 (i : Im) : Pl := ⟨i.w, i.h, 1, nmA, i.al⟩
def Im.p2 (i : Im) : Pl := ⟨i.w, i.h, 1, nmD, i.de⟩
def Im.p3 (i : Im) : Pl := ⟨i.w, i.h, 3, nmN, fl3 i.no⟩
def Im.p4 (i : Im) : Pl := ⟨i.w, i.h, 1, nmS, i.as⟩
def T3.in16 (t : T3) : Prop := (0 ≤ t.a ∧ t.a ≤ 65535) ∧ (0 ≤ t.b ∧ t.b ≤ 65535) ∧ (0 ≤ t.c ∧ t.c ≤ 65535)
structure Im.Ok (i : Im) : Prop where
  w : 1 ≤ i.w ∧ i.w ≤ 64
  h : 1 ≤ i.h ∧ i.h ≤ 64
  be : (i.be.length : Int) = i.w * i.h
  al : (i.al.length : Int) = i.w * i.h
  de : (i.de.length : Int) = i.w * i.h
  no : (i.no.length : Int) = i.w * i.h
  as : (i.as.length : Int) = i.w * i.h
  la : (i.la.length : Int) = i.w * i.h
  vbe : ∀ t ∈ i.be, t.in16
  val : ∀ x ∈ i.al, 0 ≤ x ∧ x ≤ 65535
  vde : ∀ x ∈ i.de, 0 ≤ x ∧ x ≤ 65535
  vno : ∀ t ∈ i.no, t.in16
  vas : ∀ x ∈ i.as, 0 ≤ x ∧ x ≤ 65535
  vla : ∀ x ∈ i.la, 0 ≤ x ∧ x ≤ 65535
theorem pchk_iff (p : Pl) : pchk p = 0 ↔ (1 ≤ p.w ∧ p.w ≤ 64) ∧ (1 ≤ p.h ∧ p.h ≤ 64) ∧ (1 ≤ p.deep ∧ p.deep ≤ 4) ∧ named p.name = true ∧ (p.data.length : Int) = p.w * p.h * p.deep ∧ ∀ x ∈ p.data, 0 ≤ x ∧ x ≤ 65535 := by
  unfold pchk
  constructor
  · intro h
    split at h
    · cases h
    · split at h
      · cases h
      · split at h
        · cases h
        · rename_i h1 h2 h3
          simp only [Bool.not_eq_false, List.all_eq_true, Bool.and_eq_true, decide_eq_true_eq] at h3
          refine ⟨by omega, by omega, by omega, ?_, by omega, h3⟩
          cases hn : named p.name with
          | true => rfl
          | false => exact absurd (.inl hn) h2
  · rintro ⟨h1, h2, h3, h4, h5, h6⟩
    rw [if_neg (by omega), if_neg (by rw [h4]; simp; exact h5), if_neg]
    simp only [Bool.not_eq_false, List.all_eq_true, Bool.and_eq_true, decide_eq_true_eq]
    exact h6
theorem Im.Ok.few {i : Im} (h : i.Ok) : 1 ≤ i.w * i.h ∧ i.w * i.h ≤ 4096 :=
  ⟨by have := Int.mul_le_mul h.w.1 h.h.1 (by omega) (by have := h.w; omega); omega, by have := Int.mul_le_mul h.w.2 h.h.2 (by have := h.h; omega) (by omega); omega⟩
end Go.UM

namespace Go.UM
open Go.AM
set_option pp.maxSteps 700
set_option maxRecDepth 4000
theorem eq8_c {R : Env} (h : N47 R) (a b : List UInt8) : R.Pc 47 [.isl 1 (slc8 a), .isl 1 (slc8 b)] (.bool (a == b)) :=
  h.o47.enter 60 rfl fun X bb hfit hp => by
    refine sh ?_
    exact rT
end Go.UM

namespace Go.UM
open Go.AM
set_option pp.maxSteps 700
set_option maxRecDepth 4000
def decN (n : Nat) : List UInt8 := if n < 10 then [UInt8.ofNat (48 + n)] else [UInt8.ofNat (48 + n / 10), UInt8.ofNat (48 + n % 10)]
def dec (n : Int) : List UInt8 := decN n.toNat
theorem small1 : ∀ n : Fin 10, List.drop n.val (List.take (n.val + 1) ([48, 49, 50, 51, 52, 53, 54, 55, 56, 57, 97, 98, 99, 100, 101, 102, 103, 104, 105, 106, 107, 108, 109, 110, 111, 112, 113, 114, 115, 116, 117, 118, 119, 120, 121, 122] : List UInt8)) = decN n.val := by decide
def smalls : List UInt8 := [48, 48, 48, 49, 48, 50, 48, 51, 48, 52, 48, 53, 48, 54, 48, 55, 48, 56, 48, 57, 49, 48, 49, 49, 49, 50, 49, 51, 49, 52, 49, 53, 49, 54, 49, 55, 49, 56, 49, 57, 50, 48, 50, 49, 50, 50, 50, 51, 50, 52, 50, 53, 50, 54, 50, 55, 50, 56, 50, 57, 51, 48, 51, 49, 51, 50, 51, 51, 51, 52, 51, 53, 51, 54, 51, 55, 51, 56, 51, 57, 52, 48, 52, 49, 52, 50, 52, 51, 52, 52, 52, 53, 52, 54, 52, 55, 52, 56, 52, 57, 53, 48, 53, 49, 53, 50, 53, 51, 53, 52, 53, 53, 53, 54, 53, 55, 53, 56, 53, 57, 54, 48, 54, 49, 54, 50, 54, 51, 54, 52, 54, 53, 54, 54, 54, 55, 54, 56, 54, 57, 55, 48, 55, 49, 55, 50, 55, 51, 55, 52, 55, 53, 55, 54, 55, 55, 55, 56, 55, 57, 56, 48, 56, 49, 56, 50, 56, 51, 56, 52, 56, 53, 56, 54, 56, 55, 56, 56, 56, 57, 57, 48, 57, 49, 57, 50, 57, 51, 57, 52, 57, 53, 57, 54, 57, 55, 57, 56, 57, 57]
theorem small2 : ∀ n : Fin 100, 10 ≤ n.val → List.drop (n.val * 2) (List.take (n.val * 2 + 2) smalls) = decN n.val := by decide
theorem small_c {R : Env} (h : N400 R) (n : Int) (h0 : 0 ≤ n) (h1 : n < 100) : R.Pc 400 [.int .i64 n] (.str (dec n)) :=
  h.o400.enter 60 rfl fun X bb hfit hp => by
    refine sh ?_
    refine cS (fun h1 => ?_) (fun h1 => ?_)
    · obtain ⟨k, rfl⟩ : ∃ k : Nat, n = k := ⟨n.toNat, by omega⟩
      refine sh ?_
      refine asub_eq (by exact small1 ⟨k, by omega⟩) ?_
      refine sh ?_
      exact rT
    · obtain ⟨k, rfl⟩ : ∃ k : Nat, n = k := ⟨n.toNat, by omega⟩
      refine sh ?_
      refine asub_eq (by exact small2 ⟨k, by omega⟩ (by simp at h1 ⊢; omega)) ?_
      refine sh ?_
      exact rT
theorem fmt_c {R : Env} (h : N399 R) (n : Int) (h0 : 0 ≤ n) (h1 : n < 100) : R.Pc 399 [.int .i64 n, .int .i64 10] (.str (dec n)) :=
  h.o399.enter 60 rfl fun X bb hfit hp => by
    refine sh ?_
    refine acnd_t (by decide) ?_
    refine sh ?_
    refine acnd_t (by simp; omega) ?_
    refine sh ?_
    refine acnd_t (by simp; omega) ?_
    refine sh ?_
    refine ICall.pure h.n400.o400.hb (small_c h.n400 n h0 h1) rfl ?_
    refine sh ?_
    exact rT
theorem itoa0_c {R : Env} (h : N396 R) (n : Int) (h0 : 0 ≤ n) (h1 : n < 100) : R.Pc 396 [.int .i64 n] (.str (dec n)) :=
  h.o396.enter 60 rfl fun X bb hfit hp => by
    refine sh ?_
    refine ICall.pure h.n399.o399.hb (fmt_c h.n399 n h0 h1) rfl ?_
    refine sh ?_
    exact rT
theorem itoa_c {R : Env} (h : N393 R) (n : Int) (h0 : 0 ≤ n) (h1 : n < 100) : R.Pc 393 [.int .i64 n] (.str (dec n)) :=
  h.o393.enter 60 rfl fun X bb hfit hp => by
    refine sh ?_
    refine ICall.pure h.n396.o396.hb (itoa0_c h.n396 n h0 h1) rfl ?_
    refine sh ?_
    exact rT
def hd (p : Pl) : List UInt8 := [80, 55, 10, 87, 73, 68, 84, 72, 32] ++ dec p.w ++ [10, 72, 69, 73, 71, 72, 84, 32] ++ dec p.h ++ [10, 68, 69, 80, 84, 72, 32] ++ dec p.deep ++ [10, 77, 65, 88, 86, 65, 76, 32, 54, 53, 53, 51, 53, 10, 84, 85, 80, 76, 84, 89, 80, 69, 32] ++ p.name ++ [10, 69, 78, 68, 72, 68, 82, 10]
structure Pl.In (p : Pl) : Prop where
  w : 1 ≤ p.w ∧ p.w ≤ 64
  h : 1 ≤ p.h ∧ p.h ≤ 64
  d : 1 ≤ p.deep ∧ p.deep ≤ 4
  n : p.name.length ≤ 1000
theorem dec_len (n : Int) : (dec n).length ≤ 2 := by unfold dec decN; split <;> simp
theorem head_c {R : Env} (h : N381 R) (p : Pl) (hi : p.In) : R.Pc 381 [.agg p.row] (.str (hd p)) :=
  h.o381.enter 100 rfl fun X bb hfit hp => by
    obtain ⟨⟨w0, w1⟩, ⟨h0, h1⟩, ⟨d0, d1⟩, hn⟩ := hi
    have l1 := dec_len p.w
    have l2 := dec_len p.h
    have l3 := dec_len p.deep
    refine sh ?_
    refine ICall.pure h.n393.o393.hb (itoa_c h.n393 p.w (by omega) (by omega)) rfl ?_
    repeat (refine st ?_; refine ⟨by simp only [List.length_append, List.length_cons, List.length_nil]; omega, ?_⟩)
    refine sh ?_
    refine ICall.pure h.n393.o393.hb (itoa_c h.n393 p.h (by omega) (by omega)) rfl ?_
    repeat (refine st ?_; refine ⟨by simp only [List.length_append, List.length_cons, List.length_nil]; omega, ?_⟩)
    refine sh ?_
    refine ICall.pure h.n393.o393.hb (itoa_c h.n393 p.deep (by omega) (by omega)) rfl ?_
    repeat (refine st ?_; refine ⟨by simp only [List.length_append, List.length_cons, List.length_nil]; omega, ?_⟩)
    refine sh ?_
    exact rT
def enc2 (l : List Int) : List UInt8 := l.flatMap fun x => [u8 (x / 256), u8 x]
theorem enc2_len (l : List Int) : (enc2 l).length = 2 * l.length := by
  induction l with
  | nil => rfl
  | cons x r ih => simp [enc2] at ih ⊢; omega
theorem enc2_succ {l : List Int} {k : Nat} {x : Int} (h : l[k]? = some x) : enc2 (l.take (k + 1)) = enc2 (l.take k) ++ [u8 (x / 256), u8 x] := by
  rw [take_succ_get h]; simp [enc2]
def penc (p : Pl) : List UInt8 × Int := if pchk p ≠ 0 then ([], pchk p) else (hd p ++ enc2 p.data, 0)
theorem named_le {s : List UInt8} (h : named s = true) : s.length ≤ 16 := by simp [named] at h; omega
theorem pchk_in {p : Pl} (h : pchk p = 0) : p.In := by
  obtain ⟨h1, h2, h3, h4, _⟩ := (pchk_iff p).1 h
  have := named_le h4
  exact ⟨h1, h2, h3, by omega⟩
set_option maxHeartbeats 1000000 in
theorem pencode_c {R : Env} (h : N365 R) (p : Pl) (hn : p.name.length ≤ 1073741824) (hl : p.data.length ≤ 100000) : R.Pc 365 [.agg p.row] (.tup [.isl 1 (slc8 (penc p).1), .int .i64 (penc p).2]) :=
  h.o365.enter 200 rfl fun X bb hfit hp => by
    refine sh ?_
    refine ICall.pure h.n153.o153.hb (pcheck_c h.n153 p hn) rfl ?_
    generalize hq : penc p = q
    refine sh ?_
    refine cS (fun h1 => ?_) (fun h1 => ?_)
    · rw [penc, if_pos (by simpa using h1)] at hq
      subst hq
      refine sh ?_
      exact rT
    · have ok : pchk p = 0 := by simpa using h1
      rw [penc, if_neg (by simpa using h1)] at hq
      subst hq
      have hpi := pchk_in ok
      refine sh ?_
      refine ICall.pure h.n381.o381.hb (head_c h.n381 p hpi) rfl ?_
      have hdl : (hd p).length ≤ 2000 := by
        have l1 := dec_len p.w
        have l2 := dec_len p.h
        have l3 := dec_len p.deep
        have := hpi.n
        simp [hd]; omega
      have hdin := ((pchk_iff p).1 ok).2.2.2.2.2
      generalize hd p = H at hdl ⊢
      refine sh ?_
      refine ILoop.inv 200 (fun i : Nat => i ≤ p.data.length) (fun i => ⟨[(5, .osl 1 (H ++ enc2 (p.data.take i)).length), (17, .isl 1 (slcK .i64 p.data)), (18, .int .i64 p.data.length), (19, .int .i64 i)], [(1, .arr (R.ty 4) 1 (slc8 (H ++ enc2 (p.data.take i))))], 2⟩) (fun i => p.data.length - i) (0) ?_ ⟨⟨_, hp, rfl⟩, ?_, ?_⟩ ?_
      · exact Nat.zero_le _
      · all_goals repeat' (first | exact True.intro | refine And.intro ?_ ?_ | (intro _u; clear _u) | (with_reducible first | refine eM ?_ ?_ | refine eF ?_ ?_ ?_ | refine eN ?_ | refine eL ?_ ?_ ?_ | refine eA ?_ ?_ | refine IWk.mk ⟨_, hp, rfl⟩ ?_ ?_) | refine IWk.mk ⟨_, hp, rfl⟩ ?_ ?_)
        all_goals first | with_reducible rfl | omega | exact Or.inl (by decide) | (simp; done) | rfl | skip
        simp [enc2]
      · all_goals repeat' (first | exact True.intro | refine And.intro ?_ ?_ | (intro _u; clear _u) | (with_reducible first | refine eM ?_ ?_ | refine eF ?_ ?_ ?_ | refine eN ?_ | refine eL ?_ ?_ ?_ | refine eA ?_ ?_ | refine IWk.mk ⟨_, hp, rfl⟩ ?_ ?_) | refine IWk.mk ⟨_, hp, rfl⟩ ?_ ?_)
        all_goals first | with_reducible rfl | omega | exact Or.inl (by decide) | (simp; done) | rfl | skip
        simp [enc2, slc8]
      · intro i hi
        dsimp only
        refine sh ?_
        refine cS (fun h2 => ?_) (fun h2 => ?_)
        · obtain ⟨y, hy⟩ : ∃ u_, p.data[i]? = some u_ := ⟨_, List.getElem?_eq_getElem (by first | omega | (simp <;> omega))⟩
          refine sh ?_
          refine eget_map hy ?_
          have hyin := hdin y (List.mem_of_getElem? hy)
          have hlen := enc2_len (p.data.take i)
          simp only [List.length_take] at hlen
          refine sh ?_
          refine iwr_any ?_
          refine sh ?_
          refine iwr_any ?_
          refine sh ?_
          refine nX (i + 1) ?_ ?_ ⟨_, hp, rfl⟩ ?_ ?_
          · omega
          · omega
          · all_goals repeat' (first | exact True.intro | refine And.intro ?_ ?_ | (intro _u; clear _u) | (with_reducible first | refine eM ?_ ?_ | refine eF ?_ ?_ ?_ | refine eN ?_ | refine eL ?_ ?_ ?_ | refine eA ?_ ?_ | refine IWk.mk ⟨_, hp, rfl⟩ ?_ ?_) | refine IWk.mk ⟨_, hp, rfl⟩ ?_ ?_)
            all_goals first | with_reducible rfl | omega | exact Or.inl (by decide) | (simp; done) | rfl | skip
            rw [enc2_succ hy]; simp
          · all_goals repeat' (first | exact True.intro | refine And.intro ?_ ?_ | (intro _u; clear _u) | (with_reducible first | refine eM ?_ ?_ | refine eF ?_ ?_ ?_ | refine eN ?_ | refine eL ?_ ?_ ?_ | refine eA ?_ ?_ | refine IWk.mk ⟨_, hp, rfl⟩ ?_ ?_) | refine IWk.mk ⟨_, hp, rfl⟩ ?_ ?_)
            all_goals first | with_reducible rfl | omega | exact Or.inl (by decide) | (simp; done) | rfl | skip
            rw [enc2_succ hy]; simp [slc8]
            all_goals (rw [wr_u8, shr_eq hyin.1]; rfl)
        · rw [List.take_of_length_le (by omega)]
          refine sh ?_
          exact rT
theorem dig1 : ∀ n : Fin 10, List.drop n.val (List.take (n.val + 1) ([48, 49, 50, 51, 52, 53, 54, 55, 56, 57] : List UInt8)) = [UInt8.ofNat (48 + n.val)] := by decide
theorem rnum1_c {R : Env} (h : N394 R) (n : Int) (h0 : 0 ≤ n) (h1 : n < 10) : R.Pc 394 [.int .i64 n] (.str (dec n)) :=
  h.o394.enter 60 rfl fun X bb hfit hp => by
    refine sh ?_
    refine acnd_t (by simp; omega) ?_
    obtain ⟨k, rfl⟩ : ∃ k : Nat, n = k := ⟨n.toNat, by omega⟩
    refine sh ?_
    refine asub_eq (by exact dig1 ⟨k, by omega⟩) ?_
    refine sh ?_
    refine rT ?_
    all_goals repeat' (first | exact True.intro | refine And.intro ?_ ?_ | (intro _u; clear _u) | (with_reducible first | refine eM ?_ ?_ | refine eF ?_ ?_ ?_ | refine eN ?_ | refine eL ?_ ?_ ?_ | refine eA ?_ ?_ | refine IWk.mk ⟨_, hp, rfl⟩ ?_ ?_) | refine IWk.mk ⟨_, hp, rfl⟩ ?_ ?_)
    all_goals first | with_reducible rfl | omega | exact Or.inl (by decide) | (simp; done) | rfl | skip
    simp [dec, decN]; omega
theorem rnum_c {R : Env} (h : N394 R) (n : Int) (h0 : 0 ≤ n) (h1 : n < 100) : R.Pc 394 [.int .i64 n] (.str (dec n)) := by
  by_cases hs : n < 10
  · exact rnum1_c h n h0 hs
  exact h.o394.enter 60 rfl fun X bb hfit hp => by
    refine sh ?_
    refine acnd_f (by simp; omega) ?_
    obtain ⟨k, rfl⟩ : ∃ k : Nat, n = k := ⟨n.toNat, by omega⟩
    have e1 : wr .i64 ((k : Int).tdiv 10) = ((k / 10 : Nat) : Int) := by
      rw [Int.tdiv_eq_ediv_of_nonneg (by omega)]; exact wr_in (k := .i64) (by simp only [inI]; omega)
    have e2 : (k : Int).tmod 10 = ((k % 10 : Nat) : Int) := by rw [Int.tmod_eq_emod_of_nonneg (by omega)]; rfl
    refine sh ?_
    refine iwr_eq e1 ?_
    refine sh ?_
    refine ICall.pure h.o394.hb (rnum1_c h (k / 10 : Nat) (by omega) (by omega)) rfl ?_
    refine st ?_
    rw [e2]
    refine sh ?_
    refine asub_eq (by exact dig1 ⟨k % 10, by omega⟩) ?_
    have l1 := dec_len (k / 10 : Nat)
    refine sh ?_
    refine ⟨by simp only [List.length_append, List.length_cons, List.length_nil]; omega, ?_⟩
    refine sh ?_
    refine rT ?_
    all_goals repeat' (first | exact True.intro | refine And.intro ?_ ?_ | (intro _u; clear _u) | (with_reducible first | refine eM ?_ ?_ | refine eF ?_ ?_ ?_ | refine eN ?_ | refine eL ?_ ?_ ?_ | refine eA ?_ ?_ | refine IWk.mk ⟨_, hp, rfl⟩ ?_ ?_) | refine IWk.mk ⟨_, hp, rfl⟩ ?_ ?_)
    all_goals first | with_reducible rfl | omega | exact Or.inl (by decide) | (simp; done) | rfl | skip
    have h10 : k / 10 < 10 := by omega
    simp only [dec, decN, Int.toNat_natCast, if_pos h10, if_neg (show ¬ k < 10 by omega)]; rfl
theorem rhead_c {R : Env} (h : N382 R) (p : Pl) (hi : p.In) : R.Pc 382 [.agg p.row] (.str (hd p)) :=
  h.o382.enter 100 rfl fun X bb hfit hp => by
    obtain ⟨⟨w0, w1⟩, ⟨h0, h1⟩, ⟨d0, d1⟩, hn⟩ := hi
    have l1 := dec_len p.w
    have l2 := dec_len p.h
    have l3 := dec_len p.deep
    refine sh ?_
    refine ICall.pure h.n394.o394.hb (rnum_c h.n394 p.w (by omega) (by omega)) rfl ?_
    repeat (refine st ?_; refine ⟨by simp only [List.length_append, List.length_cons, List.length_nil]; omega, ?_⟩)
    refine sh ?_
    refine ICall.pure h.n394.o394.hb (rnum_c h.n394 p.h (by omega) (by omega)) rfl ?_
    repeat (refine st ?_; refine ⟨by simp only [List.length_append, List.length_cons, List.length_nil]; omega, ?_⟩)
    refine sh ?_
    refine ICall.pure h.n394.o394.hb (rnum_c h.n394 p.deep (by omega) (by omega)) rfl ?_
    repeat (refine st ?_; refine ⟨by simp only [List.length_append, List.length_cons, List.length_nil]; omega, ?_⟩)
    refine sh ?_
    exact rT
set_option maxHeartbeats 1000000 in
theorem rpencode_c {R : Env} (h : N366 R) (p : Pl) (hn : p.name.length ≤ 1073741824) (hl : p.data.length ≤ 100000) : R.Pc 366 [.agg p.row] (.tup [.isl 1 (slc8 (penc p).1), .int .i64 (penc p).2]) :=
  h.o366.enter 200 rfl fun X bb hfit hp => by
    refine sh ?_
    refine ICall.pure h.n162.o162.hb (rpcheck_c h.n162 p hn) rfl ?_
    generalize hq : penc p = q
    refine sh ?_
    refine cS (fun h1 => ?_) (fun h1 => ?_)
    · rw [penc, if_pos (by simpa using h1)] at hq
      subst hq
      refine sh ?_
      exact rT
    · have ok : pchk p = 0 := by simpa using h1
      rw [penc, if_neg (by simpa using h1)] at hq
      subst hq
      have hpi := pchk_in ok
      refine sh ?_
      refine ICall.pure h.n382.o382.hb (rhead_c h.n382 p hpi) rfl ?_
      have hdl : (hd p).length ≤ 2000 := by
        have l1 := dec_len p.w
        have l2 := dec_len p.h
        have l3 := dec_len p.deep
        have := hpi.n
        simp [hd]; omega
      have hdin := ((pchk_iff p).1 ok).2.2.2.2.2
      generalize hd p = H at hdl ⊢
      refine sh ?_
      refine ILoop.inv 200 (fun i : Nat => i ≤ p.data.length) (fun i => ⟨[(1, .loc 0 1 0 0), (5, .osl 1 (H ++ enc2 (p.data.take i)).length), (6, .int .i64 i)], [(1, .arr (R.ty 4) 1 (slc8 (H ++ enc2 (p.data.take i)))), (0, .var (R.ty 20) p.row)], 2⟩) (fun i => p.data.length - i) (0) ?_ ⟨⟨_, hp, rfl⟩, ?_, ?_⟩ ?_
      · exact Nat.zero_le _
      · all_goals repeat' (first | exact True.intro | refine And.intro ?_ ?_ | (intro _u; clear _u) | (with_reducible first | refine eM ?_ ?_ | refine eF ?_ ?_ ?_ | refine eN ?_ | refine eL ?_ ?_ ?_ | refine eA ?_ ?_ | refine IWk.mk ⟨_, hp, rfl⟩ ?_ ?_) | refine IWk.mk ⟨_, hp, rfl⟩ ?_ ?_)
        all_goals first | with_reducible rfl | omega | exact Or.inl (by decide) | (simp; done) | rfl | skip
        simp [enc2]
      · all_goals repeat' (first | exact True.intro | refine And.intro ?_ ?_ | (intro _u; clear _u) | (with_reducible first | refine eM ?_ ?_ | refine eF ?_ ?_ ?_ | refine eN ?_ | refine eL ?_ ?_ ?_ | refine eA ?_ ?_ | refine IWk.mk ⟨_, hp, rfl⟩ ?_ ?_) | refine IWk.mk ⟨_, hp, rfl⟩ ?_ ?_)
        all_goals first | with_reducible rfl | omega | exact Or.inl (by decide) | (simp; done) | rfl | skip
        simp [enc2, slc8]
      · intro i hi
        dsimp only
        refine sh ?_
        refine cS (fun h2 => ?_) (fun h2 => ?_)
        · obtain ⟨y, hy⟩ : ∃ u_, p.data[i]? = some u_ := ⟨_, List.getElem?_eq_getElem (by first | omega | (simp <;> omega))⟩
          refine sh ?_
          refine eget_map hy ?_
          have hyin := hdin y (List.mem_of_getElem? hy)
          have hlen := enc2_len (p.data.take i)
          simp only [List.length_take] at hlen
          have e1 : wr .i64 (y.tdiv 256) = y / 256 := by
            rw [Int.tdiv_eq_ediv_of_nonneg (by omega)]; exact wr_in (k := .i64) (by simp only [inI]; omega)
          refine sh ?_
          refine iwr_eq e1 ?_
          refine sh ?_
          refine eget_map hy ?_
          refine st ?_
          rw [Int.tmod_eq_emod_of_nonneg hyin.1]
          refine sh ?_
          refine nX (i + 1) ?_ ?_ ⟨_, hp, rfl⟩ ?_ ?_
          · omega
          · omega
          · all_goals repeat' (first | exact True.intro | refine And.intro ?_ ?_ | (intro _u; clear _u) | (with_reducible first | refine eM ?_ ?_ | refine eF ?_ ?_ ?_ | refine eN ?_ | refine eL ?_ ?_ ?_ | refine eA ?_ ?_ | refine IWk.mk ⟨_, hp, rfl⟩ ?_ ?_) | refine IWk.mk ⟨_, hp, rfl⟩ ?_ ?_)
            all_goals first | with_reducible rfl | omega | exact Or.inl (by decide) | (simp; done) | rfl | skip
            rw [enc2_succ hy]; simp
          · all_goals repeat' (first | exact True.intro | refine And.intro ?_ ?_ | (intro _u; clear _u) | (with_reducible first | refine eM ?_ ?_ | refine eF ?_ ?_ ?_ | refine eN ?_ | refine eL ?_ ?_ ?_ | refine eA ?_ ?_ | refine IWk.mk ⟨_, hp, rfl⟩ ?_ ?_) | refine IWk.mk ⟨_, hp, rfl⟩ ?_ ?_)
            all_goals first | with_reducible rfl | omega | exact Or.inl (by decide) | (simp; done) | rfl | skip
            rw [enc2_succ hy]; simp [slc8]
            all_goals exact ⟨(u8_in (by omega)).symm, by rw [← u8_mod, u8_in (by omega)]⟩
        · rw [List.take_of_length_le (by omega)]
          refine sh ?_
          exact rT
end Go.UM

namespace Go.UM
open Go.AM
set_option pp.maxSteps 700
set_option maxRecDepth 4000
def Pl.few (p : Pl) : Pl := { p with name := p.name.take 20, data := p.data.take 100 }
theorem few30_c {R : Env} (h : N364 R) (p : Pl) : R.Pc 364 [.agg p.row] (.agg p.few.row) :=
  h.o364.enter 60 rfl fun X bb hfit hp => by
    refine sh ?_
    refine aSb ?_
    rw [take_cap]
    refine sh ?_
    refine aSb ?_
    rw [take_cap]
    refine sh ?_
    exact rT
def P30 : Pl := ⟨1, 1, 1, [65], [258]⟩
theorem works30_c {R : Env} (h : N367 R) : R.Pc 367 [] (.bool true) :=
  h.o367.enter 100 rfl fun X bb hfit hp => by
    have c1 := pencode_c h.n365 P30 (by decide) (by decide)
    rw [show penc P30 = ([80, 55, 10, 87, 73, 68, 84, 72, 32, 49, 10, 72, 69, 73, 71, 72, 84, 32, 49, 10, 68, 69, 80, 84, 72, 32, 49, 10, 77, 65, 88, 86, 65, 76, 32, 54, 53, 53, 51, 53, 10, 84, 85, 80, 76, 84, 89, 80, 69, 32, 65, 10, 69, 78, 68, 72, 68, 82, 10, 1, 2], 0) by decide +kernel] at c1
    refine sh ?_
    refine ICall.let [0] rfl hp rfl ?_
    repeat ((intro _u; clear _u); first | refine eZ ?_ | refine eZ ?_ (by simp; omega) | refine FrzC.drop ?_)
    refine sh ?_
    refine ICall.pure h.n365.o365.hb c1 rfl ?_
    refine sh ?_
    refine acnd_t (by decide) ?_
    refine sh ?_
    exact rT
theorem pencodes_law {R : Env} (h : N363 R) (p : Pl) : R.Pc 363 [.agg p.row] (.bool true) :=
  h.o363.enter 100 rfl fun X bb hfit hp => by
    refine sh ?_
    refine ICall.pure h.n364.o364.hb (few30_c h.n364 p) rfl ?_
    have hn : p.few.name.length ≤ 1073741824 := by simp [Pl.few]; omega
    have hl : p.few.data.length ≤ 100000 := by simp [Pl.few]; omega
    generalize p.few = p at hn hl ⊢
    refine sh ?_
    refine ICall.pure h.n365.o365.hb (pencode_c h.n365 p hn hl) rfl ?_
    refine sh ?_
    refine ICall.pure h.n366.o366.hb (rpencode_c h.n366 p hn hl) rfl ?_
    refine sh ?_
    refine ICall.pure h.n153.o153.hb (pcheck_c h.n153 p hn) rfl ?_
    refine sh ?_
    refine ICall.pure h.n162.o162.hb (rpcheck_c h.n162 p hn) rfl ?_
    refine sh ?_
    refine acnd_t (by simp) ?_
    refine sh ?_
    refine ICall.pure h.n47.o47.hb (eq8_c h.n47 (penc p).1 (penc p).1) rfl ?_
    refine sh ?_
    refine acnd_t (by simp) ?_
    refine sh ?_
    refine acnd_t (by simp) ?_
    refine sh ?_
    refine ICall.pure h.n367.o367.hb (works30_c h.n367) rfl ?_
    refine sh ?_
    exact rT
end Go.UM

namespace Go.UM
open Go.AM
set_option pp.maxSteps 700
theorem openK {T : TT} {n e : Nat} {k : IntKind} {es : List (List AV)} (hT : T.d e = .int k) (h : ∀ r ∈ es, cty T (n + 1) e r) : ∃ l : List Int, es = slcK k l ∧ ∀ x ∈ l, inI k x := by
  obtain ⟨l, rfl, hl⟩ := rows_map (f := fun c : Int => [AV.int k c]) (p := fun c => inI k c) (es := es) fun r hr => by
    have h1 := h r hr
    simp only [cty, hT] at h1
    obtain ⟨x, rfl, hx⟩ := h1
    exact ⟨x, rfl, wf_in hx⟩
  exact ⟨l, rfl, hl⟩
end Go.UM
