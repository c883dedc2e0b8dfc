/- Of the reckoning machine, and what is proved with it: texts joined by program. -/
import Derived.Test.YtniidkdlkijhiaaDoorK3
import Derived.Laws.Externs
import Derived.Lib.BytesEntry
set_option linter.all false

namespace Go.UM
open Go.AM
def c146 : IFn := { np := 2, rs := [.t 4], body := (.seq (.ops [⟨some 4, none, .mv (.k (.bool false))⟩]) (.seq (.seq (.ops [⟨some 6, none, .mv (.t 0)⟩, ⟨some 7, none, .lenS (.t 6)⟩, ⟨some 8, none, .mv (.t 1)⟩, ⟨some 9, none, .lenS (.t 8)⟩, ⟨some 10, none, .bin .neq (.t 7) (.t 9)⟩]) (.keep [0, 1, 10] (.cond (.t 10) (.seq (.ops [⟨some 4, none, .mv (.k (.bool false))⟩]) .ret) .skip))) (.keep [0, 1] (.seq (.seq (.ops [⟨some 11, none, .mv (.t 0)⟩, ⟨some 12, none, .lenS (.t 11)⟩, ⟨some 13, none, .mv (.k (.int .i64 0))⟩]) (.keep [0, 1, 12, 13] (.block 0 (.loop (.seq (.ops [⟨some 14, none, .bin .lss (.t 13) (.t 12)⟩]) (.seq (.cond (.t 14) .skip (.exit 0)) (.keep [0, 1, 12, 13] (.seq (.block 1 (.seq (.ops [⟨some 15, none, .mv (.t 13)⟩, ⟨some 5, none, .mv (.t 15)⟩]) (.seq (.draw [0, 0, 3, 7, 0, 0, 48, 112, 255] [[0], [5], [16, 17], [18], [1], [5], [20, 21], [22], [19, 23]] [⟨some 16, none, .mv (.t 0)⟩, ⟨some 17, none, .mv (.t 5)⟩, ⟨some 18, none, .idxS 3 (.t 16) (.t 17)⟩, ⟨some 19, none, .load true 3 (.t 18)⟩, ⟨some 20, none, .mv (.t 1)⟩, ⟨some 21, none, .mv (.t 5)⟩, ⟨some 22, none, .idxS 3 (.t 20) (.t 21)⟩, ⟨some 23, none, .load true 3 (.t 22)⟩, ⟨some 24, none, .eqa true [.i, .i, .i] (.t 19) (.t 23)⟩]) (.keep [0, 1, 12, 13, 24] (.cond (.t 24) (.seq (.ops [⟨some 4, none, .mv (.k (.bool false))⟩]) .ret) .skip))))) (.keep [0, 1, 12, 13] (.ops [⟨some 25, none, .bin .add (.t 13) (.k (.int .i64 1))⟩, ⟨some 13, none, .mv (.t 25)⟩])))))))))) (.keep [] (.seq (.ops [⟨some 4, none, .mv (.k (.bool true))⟩]) .ret)))))) }
structure N146 (R : Env) : Prop where
  o146 : R.Fn 146 c146
def c147 : IFn := { np := 2, rs := [.t 4], body := (.seq (.ops [⟨some 4, none, .mv (.k (.bool false))⟩]) (.seq (.seq (.ops [⟨some 6, none, .mv (.t 0)⟩, ⟨some 7, none, .lenS (.t 6)⟩, ⟨some 8, none, .mv (.t 1)⟩, ⟨some 9, none, .lenS (.t 8)⟩, ⟨some 10, none, .bin .neq (.t 7) (.t 9)⟩]) (.keep [0, 1, 10] (.cond (.t 10) (.seq (.ops [⟨some 4, none, .mv (.k (.bool false))⟩]) .ret) .skip))) (.keep [0, 1] (.seq (.seq (.ops [⟨some 11, none, .mv (.t 0)⟩, ⟨some 12, none, .lenS (.t 11)⟩, ⟨some 13, none, .mv (.k (.int .i64 0))⟩]) (.keep [0, 1, 12, 13] (.block 0 (.loop (.seq (.ops [⟨some 14, none, .bin .lss (.t 13) (.t 12)⟩]) (.seq (.cond (.t 14) .skip (.exit 0)) (.keep [0, 1, 12, 13] (.seq (.block 1 (.seq (.ops [⟨some 15, none, .mv (.t 13)⟩, ⟨some 5, none, .mv (.t 15)⟩]) (.seq (.draw [0, 0, 3, 7, 0, 0, 48, 112, 255] [[0], [5], [16, 17], [18], [1], [5], [20, 21], [22], [19, 23]] [⟨some 16, none, .mv (.t 0)⟩, ⟨some 17, none, .mv (.t 5)⟩, ⟨some 18, none, .idxS 1 (.t 16) (.t 17)⟩, ⟨some 19, none, .load false 1 (.t 18)⟩, ⟨some 20, none, .mv (.t 1)⟩, ⟨some 21, none, .mv (.t 5)⟩, ⟨some 22, none, .idxS 1 (.t 20) (.t 21)⟩, ⟨some 23, none, .load false 1 (.t 22)⟩, ⟨some 24, none, .bin .neq (.t 19) (.t 23)⟩]) (.keep [0, 1, 12, 13, 24] (.cond (.t 24) (.seq (.ops [⟨some 4, none, .mv (.k (.bool false))⟩]) .ret) .skip))))) (.keep [0, 1, 12, 13] (.ops [⟨some 25, none, .bin .add (.t 13) (.k (.int .i64 1))⟩, ⟨some 13, none, .mv (.t 25)⟩])))))))))) (.keep [] (.seq (.ops [⟨some 4, none, .mv (.k (.bool true))⟩]) .ret)))))) }
structure N147 (R : Env) : Prop where
  o147 : R.Fn 147 c147
def c120 : IFn := { np := 2, rs := [.t 4], body := (.seq (.ops [⟨some 2, none, .box 16 (.t 0)⟩, ⟨some 3, none, .box 16 (.t 1)⟩, ⟨some 4, none, .mv (.k (.bool false))⟩]) (.seq (.ops [⟨some 5, none, .fldA 0 (.t 2)⟩, ⟨some 6, none, .load false 1 (.t 5)⟩, ⟨some 7, none, .fldA 0 (.t 3)⟩, ⟨some 8, none, .load false 1 (.t 7)⟩, ⟨some 9, none, .bin .eql (.t 6) (.t 8)⟩, ⟨some 10, none, .mv (.t 9)⟩, ⟨some 11, some (10, true), .fldA 1 (.t 2)⟩, ⟨some 12, some (10, true), .load false 1 (.t 11)⟩, ⟨some 13, some (10, true), .fldA 1 (.t 3)⟩, ⟨some 14, some (10, true), .load false 1 (.t 13)⟩, ⟨some 15, some (10, true), .bin .eql (.t 12) (.t 14)⟩, ⟨some 16, none, .pick (.t 10) (.t 15) (.k (.bool false))⟩, ⟨some 17, none, .mv (.t 16)⟩, ⟨some 18, some (17, true), .fldA 2 (.t 2)⟩, ⟨some 19, some (17, true), .load false 1 (.t 18)⟩, ⟨some 20, some (17, true), .fldA 2 (.t 3)⟩, ⟨some 21, some (17, true), .load false 1 (.t 20)⟩, ⟨some 22, some (17, true), .call 146 [.t 19, .t 21]⟩, ⟨some 23, none, .pick (.t 17) (.t 22) (.k (.bool false))⟩, ⟨some 24, none, .mv (.t 23)⟩, ⟨some 25, some (24, true), .fldA 3 (.t 2)⟩, ⟨some 26, some (24, true), .load false 1 (.t 25)⟩, ⟨some 27, some (24, true), .fldA 3 (.t 3)⟩, ⟨some 28, some (24, true), .load false 1 (.t 27)⟩, ⟨some 29, some (24, true), .call 147 [.t 26, .t 28]⟩, ⟨some 30, none, .pick (.t 24) (.t 29) (.k (.bool false))⟩, ⟨some 31, none, .mv (.t 30)⟩, ⟨some 32, some (31, true), .fldA 4 (.t 2)⟩, ⟨some 33, some (31, true), .load false 1 (.t 32)⟩, ⟨some 34, some (31, true), .fldA 4 (.t 3)⟩, ⟨some 35, some (31, true), .load false 1 (.t 34)⟩, ⟨some 36, some (31, true), .call 147 [.t 33, .t 35]⟩, ⟨some 37, none, .pick (.t 31) (.t 36) (.k (.bool false))⟩, ⟨some 38, none, .mv (.t 37)⟩, ⟨some 39, some (38, true), .fldA 5 (.t 2)⟩, ⟨some 40, some (38, true), .load false 1 (.t 39)⟩, ⟨some 41, some (38, true), .fldA 5 (.t 3)⟩, ⟨some 42, some (38, true), .load false 1 (.t 41)⟩, ⟨some 43, some (38, true), .call 146 [.t 40, .t 42]⟩, ⟨some 44, none, .pick (.t 38) (.t 43) (.k (.bool false))⟩, ⟨some 45, none, .mv (.t 44)⟩, ⟨some 46, some (45, true), .fldA 6 (.t 2)⟩, ⟨some 47, some (45, true), .load false 1 (.t 46)⟩, ⟨some 48, some (45, true), .fldA 6 (.t 3)⟩, ⟨some 49, some (45, true), .load false 1 (.t 48)⟩, ⟨some 50, some (45, true), .call 147 [.t 47, .t 49]⟩, ⟨some 51, none, .pick (.t 45) (.t 50) (.k (.bool false))⟩, ⟨some 52, none, .mv (.t 51)⟩, ⟨some 53, some (52, true), .fldA 7 (.t 2)⟩, ⟨some 54, some (52, true), .load false 1 (.t 53)⟩, ⟨some 55, some (52, true), .fldA 7 (.t 3)⟩, ⟨some 56, some (52, true), .load false 1 (.t 55)⟩, ⟨some 57, some (52, true), .call 147 [.t 54, .t 56]⟩, ⟨some 58, none, .pick (.t 52) (.t 57) (.k (.bool false))⟩, ⟨some 4, none, .mv (.t 58)⟩]) (.keep [4] .ret))) }
structure N120 (R : Env) : Prop where
  o120 : R.Fn 120 c120
  n146 : N146 R
  n147 : N147 R
end Go.UM

namespace Go.UM
open Go.AM
def c47 : IFn := { np := 2, rs := [.t 4], body := (.seq (.ops [⟨some 4, none, .mv (.k (.bool false))⟩]) (.seq (.ops [⟨some 5, none, .mv (.t 0)⟩, ⟨some 6, none, .b2s (.t 5)⟩, ⟨some 7, none, .mv (.t 1)⟩, ⟨some 8, none, .b2s (.t 7)⟩, ⟨some 9, none, .bst .eql (.t 6) (.t 8)⟩, ⟨some 4, none, .mv (.t 9)⟩]) (.keep [4] .ret))) }
structure N47 (R : Env) : Prop where
  o47 : R.Fn 47 c47
def c400 : IFn := { np := 1, rs := [.t 2], body := (.seq (.ops [⟨some 2, none, .mv (.k (.str []))⟩]) (.seq (.seq (.ops [⟨some 3, none, .mv (.t 0)⟩, ⟨some 4, none, .bin .lss (.t 3) (.k (.int .i64 10))⟩]) (.cond (.t 4) (.seq (.ops [⟨some 5, none, .mv (.t 0)⟩, ⟨some 6, none, .mv (.t 0)⟩, ⟨some 7, none, .bin .add (.t 6) (.k (.int .i64 1))⟩, ⟨some 8, none, .slcT (.k (.str [48, 49, 50, 51, 52, 53, 54, 55, 56, 57, 97, 98, 99, 100, 101, 102, 103, 104, 105, 106, 107, 108, 109, 110, 111, 112, 113, 114, 115, 116, 117, 118, 119, 120, 121, 122])) (some (.t 5)) (some (.t 7))⟩, ⟨some 2, none, .mv (.t 8)⟩]) (.keep [2] .ret)) .skip)) (.keep [0] (.seq (.ops [⟨some 9, none, .mv (.t 0)⟩, ⟨some 10, none, .bin .mul (.t 9) (.k (.int .i64 2))⟩, ⟨some 11, none, .mv (.t 0)⟩, ⟨some 12, none, .bin .mul (.t 11) (.k (.int .i64 2))⟩, ⟨some 13, none, .bin .add (.t 12) (.k (.int .i64 2))⟩, ⟨some 14, none, .slcT (.k (.str [48, 48, 48, 49, 48, 50, 48, 51, 48, 52, 48, 53, 48, 54, 48, 55, 48, 56, 48, 57, 49, 48, 49, 49, 49, 50, 49, 51, 49, 52, 49, 53, 49, 54, 49, 55, 49, 56, 49, 57, 50, 48, 50, 49, 50, 50, 50, 51, 50, 52, 50, 53, 50, 54, 50, 55, 50, 56, 50, 57, 51, 48, 51, 49, 51, 50, 51, 51, 51, 52, 51, 53, 51, 54, 51, 55, 51, 56, 51, 57, 52, 48, 52, 49, 52, 50, 52, 51, 52, 52, 52, 53, 52, 54, 52, 55, 52, 56, 52, 57, 53, 48, 53, 49, 53, 50, 53, 51, 53, 52, 53, 53, 53, 54, 53, 55, 53, 56, 53, 57, 54, 48, 54, 49, 54, 50, 54, 51, 54, 52, 54, 53, 54, 54, 54, 55, 54, 56, 54, 57, 55, 48, 55, 49, 55, 50, 55, 51, 55, 52, 55, 53, 55, 54, 55, 55, 55, 56, 55, 57, 56, 48, 56, 49, 56, 50, 56, 51, 56, 52, 56, 53, 56, 54, 56, 55, 56, 56, 56, 57, 57, 48, 57, 49, 57, 50, 57, 51, 57, 52, 57, 53, 57, 54, 57, 55, 57, 56, 57, 57])) (some (.t 10)) (some (.t 13))⟩, ⟨some 2, none, .mv (.t 14)⟩]) (.keep [2] .ret))))) }
structure N400 (R : Env) : Prop where
  o400 : R.Fn 400 c400
def c399 : IFn := { np := 2, rs := [.t 4], body := (.seq (.ops [⟨some 4, none, .mv (.k (.str []))⟩]) (.seq (.seq (.ops [⟨some 10, none, .mv (.t 1)⟩, ⟨some 11, none, .bin .eql (.t 10) (.k (.int .i64 10))⟩]) (.cond (.t 11) (.seq (.seq (.ops [⟨some 12, none, .mv (.t 0)⟩, ⟨some 13, none, .bin .leq (.k (.int .i64 0)) (.t 12)⟩, ⟨some 14, none, .mv (.t 13)⟩, ⟨some 15, some (14, true), .mv (.t 0)⟩, ⟨some 16, some (14, true), .bin .lss (.t 15) (.k (.int .i64 100))⟩, ⟨some 17, none, .pick (.t 14) (.t 16) (.k (.bool false))⟩]) (.keep [0, 17] (.cond (.t 17) (.seq (.ops [⟨some 18, none, .mv (.t 0)⟩, ⟨some 19, none, .call 400 [.t 18]⟩, ⟨some 4, none, .mv (.t 19)⟩]) .ret) .skip))) (.keep [0] (.seq (.ops [⟨some 5, none, .alloc 53 [.int .u8 0, .int .u8 0, .int .u8 0, .int .u8 0, .int .u8 0, .int .u8 0, .int .u8 0, .int .u8 0, .int .u8 0, .int .u8 0, .int .u8 0, .int .u8 0, .int .u8 0, .int .u8 0, .int .u8 0, .int .u8 0, .int .u8 0, .int .u8 0, .int .u8 0, .int .u8 0, .int .u8 0, .int .u8 0, .int .u8 0, .int .u8 0]⟩]) (.seq (.ops [⟨some 20, none, .mv (.t 0)⟩, ⟨some 21, none, .conv .u64 (.t 20)⟩, ⟨some 6, none, .mv (.t 21)⟩]) (.seq (.seq (.ops [⟨some 22, none, .mv (.t 0)⟩, ⟨some 23, none, .bin .lss (.t 22) (.k (.int .i64 0))⟩]) (.cond (.t 23) (.ops [⟨some 24, none, .mv (.t 6)⟩, ⟨some 25, none, .un .neg (.t 24)⟩, ⟨some 6, none, .mv (.t 25)⟩]) .skip)) (.keep [] .bad)))))) .skip)) (.keep [] .bad))) }
structure N399 (R : Env) : Prop where
  o399 : R.Fn 399 c399
  n400 : N400 R
def c396 : IFn := { np := 1, rs := [.t 2], body := (.seq (.ops [⟨some 2, none, .mv (.k (.str []))⟩]) (.seq (.ops [⟨some 3, none, .mv (.t 0)⟩, ⟨some 4, none, .call 399 [.t 3, .k (.int .i64 10)]⟩, ⟨some 2, none, .mv (.t 4)⟩]) .ret)) }
structure N396 (R : Env) : Prop where
  o396 : R.Fn 396 c396
  n399 : N399 R
def c393 : IFn := { np := 1, rs := [.t 2], body := (.seq (.ops [⟨some 2, none, .mv (.k (.str []))⟩]) (.seq (.ops [⟨some 3, none, .mv (.t 0)⟩, ⟨some 4, none, .call 396 [.t 3]⟩, ⟨some 2, none, .mv (.t 4)⟩]) .ret)) }
structure N393 (R : Env) : Prop where
  o393 : R.Fn 393 c393
  n396 : N396 R
structure N398 (R : Env) : Prop where
  x398 : R.Xn 398 "internal/bytealg.IndexByte"
def c397 : IFn := { np := 2, rs := [.t 4], body := (.seq (.ops [⟨some 4, none, .mv (.k (.int .i64 0))⟩]) (.seq (.ops [⟨some 5, none, .mv (.t 0)⟩, ⟨some 6, none, .mv (.t 1)⟩, ⟨some 7, none, .callx 398 [.t 5, .t 6]⟩, ⟨some 4, none, .mv (.t 7)⟩]) .ret)) }
structure N397 (R : Env) : Prop where
  o397 : R.Fn 397 c397
  n398 : N398 R
def c389 : IFn := { np := 2, rs := [.t 4], body := (.seq (.ops [⟨some 4, none, .mv (.k (.bool false))⟩]) (.seq (.ops [⟨some 5, none, .mv (.t 0)⟩, ⟨some 6, none, .lenS (.t 5)⟩, ⟨some 7, none, .mv (.t 1)⟩, ⟨some 8, none, .lenS (.t 7)⟩, ⟨some 9, none, .bin .geq (.t 6) (.t 8)⟩, ⟨some 10, none, .mv (.t 9)⟩, ⟨some 11, some (10, true), .mv (.t 0)⟩, ⟨some 12, some (10, true), .mv (.t 1)⟩, ⟨some 13, some (10, true), .lenS (.t 12)⟩, ⟨some 14, some (10, true), .slcS 4 1 (.t 11) none (some (.t 13)) none⟩, ⟨some 15, some (10, true), .mv (.t 1)⟩, ⟨some 16, some (10, true), .call 47 [.t 14, .t 15]⟩, ⟨some 17, none, .pick (.t 10) (.t 16) (.k (.bool false))⟩, ⟨some 4, none, .mv (.t 17)⟩]) (.keep [4] .ret))) }
structure N389 (R : Env) : Prop where
  o389 : R.Fn 389 c389
  n47 : N47 R
def c390 : IFn := { np := 1, rs := [.t 2], body := (.seq (.ops [⟨some 2, none, .mv (.k (.nils))⟩]) (.seq (.seq (.ops [⟨some 3, none, .mv (.t 0)⟩, ⟨some 4, none, .isnS false (.t 3)⟩]) (.cond (.t 4) (.seq (.ops [⟨some 2, none, .mv (.k (.nils))⟩]) .ret) .skip)) (.keep [0] (.seq (.ops [⟨some 5, none, .bslice 4 1 0 [.int .u8 0] []⟩, ⟨some 6, none, .mv (.t 0)⟩, ⟨some 7, none, .app 4 1 (.t 5) (.t 6)⟩, ⟨some 2, none, .mv (.t 7)⟩]) .ret)))) }
structure N390 (R : Env) : Prop where
  o390 : R.Fn 390 c390
end Go.UM

namespace Go.UM
open Go.AM
def c151 : IFn := { np := 1, rs := [.t 2], body := (.seq (.ops [⟨some 2, none, .mv (.k (.nils))⟩]) (.seq (.ops [⟨some 3, none, .mv (.k (.nils))⟩]) (.seq (.seq (.ops [⟨some 6, none, .mv (.t 0)⟩, ⟨some 7, none, .lenS (.t 6)⟩, ⟨some 8, none, .mv (.k (.int .i64 0))⟩]) (.keep [3, 6, 7, 8] (.block 0 (.loop (.seq (.ops [⟨some 9, none, .bin .lss (.t 8) (.t 7)⟩]) (.seq (.cond (.t 9) .skip (.exit 0)) (.keep [3, 6, 7, 8] (.seq (.block 1 (.seq (.ops [⟨some 10, none, .idxS 3 (.t 6) (.t 8)⟩, ⟨some 11, none, .load true 3 (.t 10)⟩, ⟨some 5, none, .alloc 13 [.int .i64 0, .int .i64 0, .int .i64 0]⟩, ⟨none, none, .store 3 (.t 5) (.t 11)⟩]) (.ops [⟨some 12, none, .mv (.t 3)⟩, ⟨some 13, none, .slcA 3 1 (.t 5) none none none⟩, ⟨some 14, none, .app 10 1 (.t 12) (.t 13)⟩, ⟨some 3, none, .mv (.t 14)⟩]))) (.keep [3, 6, 7, 8] (.ops [⟨some 15, none, .bin .add (.t 8) (.k (.int .i64 1))⟩, ⟨some 8, none, .mv (.t 15)⟩])))))))))) (.keep [3] (.seq (.ops [⟨some 16, none, .mv (.t 3)⟩, ⟨some 2, none, .mv (.t 16)⟩]) .ret))))) }
structure N151 (R : Env) : Prop where
  o151 : R.Fn 151 c151
def c152 : IFn := { np := 0, rs := [.cell 0 true 30], body := (.seq (.ops [⟨some 0, none, .alloc 21 [.int .i64 0, .int .i64 0, .int .i64 0, .str [], .nils, .int .i64 0, .int .i64 0, .int .i64 0, .str [], .nils, .int .i64 0, .int .i64 0, .int .i64 0, .str [], .nils, .int .i64 0, .int .i64 0, .int .i64 0, .str [], .nils, .int .i64 0, .int .i64 0, .int .i64 0, .str [], .nils, .int .i64 0, .int .i64 0, .int .i64 0, .str [], .nils]⟩]) (.seq (.ops [⟨some 1, none, .build [.int .i64 0, .int .i64 0, .int .i64 0, .str [], .nils] [(3, 1, .k (.str [66, 69, 65, 85, 84, 89])), (2, 1, .k (.int .i64 3))]⟩, ⟨some 2, none, .build [.int .i64 0, .int .i64 0, .int .i64 0, .str [], .nils] [(3, 1, .k (.str [65, 76, 80, 72, 65])), (2, 1, .k (.int .i64 1))]⟩, ⟨some 3, none, .build [.int .i64 0, .int .i64 0, .int .i64 0, .str [], .nils] [(3, 1, .k (.str [68, 69, 80, 84, 72])), (2, 1, .k (.int .i64 1))]⟩, ⟨some 4, none, .build [.int .i64 0, .int .i64 0, .int .i64 0, .str [], .nils] [(3, 1, .k (.str [78, 79, 82, 77, 65, 76])), (2, 1, .k (.int .i64 3))]⟩, ⟨some 5, none, .build [.int .i64 0, .int .i64 0, .int .i64 0, .str [], .nils] [(3, 1, .k (.str [65, 83, 83, 69, 84])), (2, 1, .k (.int .i64 1))]⟩, ⟨some 6, none, .build [.int .i64 0, .int .i64 0, .int .i64 0, .str [], .nils] [(3, 1, .k (.str [76, 65, 66, 69, 76])), (2, 1, .k (.int .i64 1))]⟩, ⟨some 7, none, .build [.int .i64 0, .int .i64 0, .int .i64 0, .str [], .nils, .int .i64 0, .int .i64 0, .int .i64 0, .str [], .nils, .int .i64 0, .int .i64 0, .int .i64 0, .str [], .nils, .int .i64 0, .int .i64 0, .int .i64 0, .str [], .nils, .int .i64 0, .int .i64 0, .int .i64 0, .str [], .nils, .int .i64 0, .int .i64 0, .int .i64 0, .str [], .nils] [(0, 5, .t 1), (5, 5, .t 2), (10, 5, .t 3), (15, 5, .t 4), (20, 5, .t 5), (25, 5, .t 6)]⟩, ⟨none, none, .store 30 (.t 0) (.t 7)⟩]) (.keep [0] .ret))) }
structure N152 (R : Env) : Prop where
  o152 : R.Fn 152 c152
def c157 : IFn := { np := 3, rs := [.t 6], body := (.seq (.ops [⟨some 6, none, .mv (.k (.bool false))⟩]) (.seq (.ops [⟨some 7, none, .mv (.t 0)⟩, ⟨some 8, none, .mv (.t 1)⟩, ⟨some 9, none, .bin .geq (.t 7) (.t 8)⟩, ⟨some 10, none, .mv (.t 9)⟩, ⟨some 11, some (10, true), .mv (.t 0)⟩, ⟨some 12, some (10, true), .mv (.t 2)⟩, ⟨some 13, some (10, true), .bin .leq (.t 11) (.t 12)⟩, ⟨some 14, none, .pick (.t 10) (.t 13) (.k (.bool false))⟩, ⟨some 6, none, .mv (.t 14)⟩]) (.keep [6] .ret))) }
structure N157 (R : Env) : Prop where
  o157 : R.Fn 157 c157
def c158 : IFn := { np := 1, rs := [.t 2], body := (.seq (.ops [⟨some 2, none, .mv (.k (.bool false))⟩]) (.seq (.seq (.ops [⟨some 5, none, .mv (.t 0)⟩, ⟨some 6, none, .s2b 4 (.t 5)⟩, ⟨some 7, none, .lenS (.t 6)⟩, ⟨some 8, none, .mv (.k (.int .i64 0))⟩]) (.keep [0, 6, 7, 8] (.block 0 (.loop (.seq (.ops [⟨some 9, none, .bin .lss (.t 8) (.t 7)⟩]) (.seq (.cond (.t 9) .skip (.exit 0)) (.keep [0, 6, 7, 8] (.seq (.block 1 (.seq (.ops [⟨some 10, none, .idxS 1 (.t 6) (.t 8)⟩, ⟨some 11, none, .load false 1 (.t 10)⟩, ⟨some 4, none, .mv (.t 11)⟩]) (.seq (.ops [⟨some 12, none, .mv (.t 4)⟩, ⟨some 13, none, .bin .lss (.t 12) (.k (.int .u8 65))⟩, ⟨some 14, none, .mv (.t 13)⟩, ⟨some 15, some (14, false), .mv (.t 4)⟩, ⟨some 16, some (14, false), .bin .gtr (.t 15) (.k (.int .u8 90))⟩, ⟨some 17, none, .pick (.t 14) (.k (.bool true)) (.t 16)⟩]) (.keep [0, 6, 7, 8, 17] (.cond (.t 17) (.seq (.ops [⟨some 2, none, .mv (.k (.bool false))⟩]) .ret) .skip))))) (.keep [0, 6, 7, 8] (.ops [⟨some 18, none, .bin .add (.t 8) (.k (.int .i64 1))⟩, ⟨some 8, none, .mv (.t 18)⟩])))))))))) (.keep [0] (.seq (.ops [⟨some 19, none, .mv (.t 0)⟩, ⟨some 20, none, .lenT (.t 19)⟩, ⟨some 21, none, .call 157 [.t 20, .k (.int .i64 1), .k (.int .i64 16)]⟩, ⟨some 2, none, .mv (.t 21)⟩]) .ret)))) }
structure N158 (R : Env) : Prop where
  o158 : R.Fn 158 c158
  n157 : N157 R
def c153 : IFn := { np := 1, rs := [.t 2], body := (.seq (.ops [⟨some 1, none, .box 20 (.t 0)⟩, ⟨some 2, none, .mv (.k (.int .i64 0))⟩]) (.seq (.seq (.ops [⟨some 5, none, .fldA 0 (.t 1)⟩, ⟨some 6, none, .load false 1 (.t 5)⟩, ⟨some 7, none, .call 157 [.t 6, .k (.int .i64 1), .k (.int .i64 64)]⟩, ⟨some 8, none, .un .not (.t 7)⟩, ⟨some 9, none, .mv (.t 8)⟩, ⟨some 10, some (9, false), .fldA 1 (.t 1)⟩, ⟨some 11, some (9, false), .load false 1 (.t 10)⟩, ⟨some 12, some (9, false), .call 157 [.t 11, .k (.int .i64 1), .k (.int .i64 64)]⟩, ⟨some 13, some (9, false), .un .not (.t 12)⟩, ⟨some 14, none, .pick (.t 9) (.k (.bool true)) (.t 13)⟩, ⟨some 15, none, .mv (.t 14)⟩, ⟨some 16, some (15, false), .fldA 2 (.t 1)⟩, ⟨some 17, some (15, false), .load false 1 (.t 16)⟩, ⟨some 18, some (15, false), .call 157 [.t 17, .k (.int .i64 1), .k (.int .i64 4)]⟩, ⟨some 19, some (15, false), .un .not (.t 18)⟩, ⟨some 20, none, .pick (.t 15) (.k (.bool true)) (.t 19)⟩]) (.keep [1, 20] (.cond (.t 20) (.seq (.ops [⟨some 2, none, .mv (.k (.int .i64 2))⟩]) .ret) .skip))) (.keep [1] (.seq (.seq (.ops [⟨some 21, none, .fldA 3 (.t 1)⟩, ⟨some 22, none, .load false 1 (.t 21)⟩, ⟨some 23, none, .call 158 [.t 22]⟩, ⟨some 24, none, .un .not (.t 23)⟩, ⟨some 25, none, .mv (.t 24)⟩, ⟨some 26, some (25, false), .fldA 4 (.t 1)⟩, ⟨some 27, some (25, false), .load false 1 (.t 26)⟩, ⟨some 28, some (25, false), .lenS (.t 27)⟩, ⟨some 29, some (25, false), .fldA 0 (.t 1)⟩, ⟨some 30, some (25, false), .load false 1 (.t 29)⟩, ⟨some 31, some (25, false), .fldA 1 (.t 1)⟩, ⟨some 32, some (25, false), .load false 1 (.t 31)⟩, ⟨some 33, some (25, false), .bin .mul (.t 30) (.t 32)⟩, ⟨some 34, some (25, false), .fldA 2 (.t 1)⟩, ⟨some 35, some (25, false), .load false 1 (.t 34)⟩, ⟨some 36, some (25, false), .bin .mul (.t 33) (.t 35)⟩, ⟨some 37, some (25, false), .bin .neq (.t 28) (.t 36)⟩, ⟨some 38, none, .pick (.t 25) (.k (.bool true)) (.t 37)⟩]) (.keep [1, 38] (.cond (.t 38) (.seq (.ops [⟨some 2, none, .mv (.k (.int .i64 5))⟩]) .ret) .skip))) (.keep [1] (.seq (.seq (.ops [⟨some 39, none, .fldA 4 (.t 1)⟩, ⟨some 40, none, .load false 1 (.t 39)⟩, ⟨some 41, none, .lenS (.t 40)⟩, ⟨some 42, none, .mv (.k (.int .i64 0))⟩]) (.keep [40, 41, 42] (.block 0 (.loop (.seq (.ops [⟨some 43, none, .bin .lss (.t 42) (.t 41)⟩]) (.seq (.cond (.t 43) .skip (.exit 0)) (.keep [40, 41, 42] (.seq (.block 1 (.seq (.ops [⟨some 44, none, .idxS 1 (.t 40) (.t 42)⟩, ⟨some 45, none, .load false 1 (.t 44)⟩, ⟨some 4, none, .mv (.t 45)⟩]) (.seq (.ops [⟨some 46, none, .mv (.t 4)⟩, ⟨some 47, none, .call 157 [.t 46, .k (.int .i64 0), .k (.int .i64 65535)]⟩, ⟨some 48, none, .un .not (.t 47)⟩]) (.cond (.t 48) (.seq (.ops [⟨some 2, none, .mv (.k (.int .i64 5))⟩]) .ret) .skip)))) (.keep [40, 41, 42] (.ops [⟨some 49, none, .bin .add (.t 42) (.k (.int .i64 1))⟩, ⟨some 42, none, .mv (.t 49)⟩])))))))))) (.keep [] (.seq (.ops [⟨some 2, none, .mv (.k (.int .i64 0))⟩]) .ret)))))))) }
structure N153 (R : Env) : Prop where
  o153 : R.Fn 153 c153
  n157 : N157 R
  n158 : N158 R
def c132 : IFn := { np := 1, rs := [.t 2, .t 3], body := (.seq (.ops [⟨some 1, none, .box 16 (.t 0)⟩, ⟨some 2, none, .mv (.k (.nils))⟩, ⟨some 3, none, .mv (.k (.int .i64 0))⟩]) (.seq (.draw [0, 1, 3, 0, 8, 0, 32, 0, 128, 391, 0, 1024, 0, 4096, 16383, 0, 65535] [[1], [9], [10], [1], [12], [1], [14], [1], [16], [17], [1], [19], [1], [21], [11, 13, 15, 18, 20, 22], [], [4, 23]] [⟨some 9, none, .fldA 2 (.t 1)⟩, ⟨some 10, none, .load false 1 (.t 9)⟩, ⟨some 11, none, .call 151 [.t 10]⟩, ⟨some 12, none, .fldA 3 (.t 1)⟩, ⟨some 13, none, .load false 1 (.t 12)⟩, ⟨some 14, none, .fldA 4 (.t 1)⟩, ⟨some 15, none, .load false 1 (.t 14)⟩, ⟨some 16, none, .fldA 5 (.t 1)⟩, ⟨some 17, none, .load false 1 (.t 16)⟩, ⟨some 18, none, .call 151 [.t 17]⟩, ⟨some 19, none, .fldA 6 (.t 1)⟩, ⟨some 20, none, .load false 1 (.t 19)⟩, ⟨some 21, none, .fldA 7 (.t 1)⟩, ⟨some 22, none, .load false 1 (.t 21)⟩, ⟨some 23, none, .build [.nils, .nils, .nils, .nils, .nils, .nils] [(0, 1, .t 11), (1, 1, .t 13), (2, 1, .t 15), (3, 1, .t 18), (4, 1, .t 20), (5, 1, .t 22)]⟩, ⟨some 4, none, .alloc 19 [.nils, .nils, .nils, .nils, .nils, .nils]⟩, ⟨none, none, .store 6 (.t 4) (.t 23)⟩]) (.keep [1, 4] (.seq (.ops [⟨some 5, none, .mv (.k (.nils))⟩]) (.seq (.seq (.ops [⟨some 24, none, .call 152 []⟩, ⟨some 25, none, .mv (.k (.int .i64 0))⟩]) (.keep [1, 4, 5, 24, 25] (.block 0 (.loop (.seq (.ops [⟨some 26, none, .bin .lss (.t 25) (.k (.int .i64 6))⟩]) (.seq (.cond (.t 26) .skip (.exit 0)) (.keep [1, 4, 5, 24, 25] (.seq (.block 1 (.seq (.ops [⟨some 27, none, .mv (.t 25)⟩, ⟨some 28, none, .idxV true 6 5 (.t 24) (.t 25)⟩, ⟨some 7, none, .alloc 20 [.int .i64 0, .int .i64 0, .int .i64 0, .str [], .nils]⟩, ⟨some 6, none, .mv (.t 27)⟩, ⟨none, none, .store 5 (.t 7) (.t 28)⟩]) (.keep [1, 4, 5, 6, 7, 24, 25] (.seq (.draw [0, 1, 0, 4, 3, 19, 63, 127] [[1], [29], [1], [31], [7], [33, 30], [7], [34, 32]] [⟨some 29, none, .fldA 0 (.t 1)⟩, ⟨some 30, none, .load false 1 (.t 29)⟩, ⟨some 31, none, .fldA 1 (.t 1)⟩, ⟨some 32, none, .load false 1 (.t 31)⟩, ⟨some 33, none, .fldA 0 (.t 7)⟩, ⟨none, none, .store 1 (.t 33) (.t 30)⟩, ⟨some 34, none, .fldA 1 (.t 7)⟩, ⟨none, none, .store 1 (.t 34) (.t 32)⟩]) (.keep [1, 4, 5, 6, 7, 24, 25] (.seq (.ops [⟨some 35, none, .bslice 10 1 0 [.int .i64 0] []⟩, ⟨some 36, none, .mv (.t 6)⟩, ⟨some 37, none, .idxA 6 1 (.t 4) (.t 36)⟩, ⟨some 38, none, .load false 1 (.t 37)⟩, ⟨some 39, none, .app 10 1 (.t 35) (.t 38)⟩, ⟨some 40, none, .fldA 4 (.t 7)⟩, ⟨none, none, .store 1 (.t 40) (.t 39)⟩]) (.keep [1, 4, 5, 7, 24, 25] (.seq (.seq (.ops [⟨some 41, none, .load true 5 (.t 7)⟩, ⟨some 42, none, .call 153 [.t 41]⟩, ⟨some 8, none, .mv (.t 42)⟩]) (.seq (.ops [⟨some 43, none, .mv (.t 8)⟩, ⟨some 44, none, .bin .neq (.t 43) (.k (.int .i64 0))⟩]) (.cond (.t 44) (.seq (.ops [⟨some 45, none, .mv (.t 8)⟩, ⟨some 2, none, .mv (.k (.nils))⟩, ⟨some 3, none, .mv (.t 45)⟩]) .ret) .skip))) (.keep [1, 4, 5, 7, 24, 25] (.ops [⟨some 46, none, .mv (.t 5)⟩, ⟨some 47, none, .load true 5 (.t 7)⟩, ⟨some 48, none, .bslice 20 5 1 [.int .i64 0, .int .i64 0, .int .i64 0, .str [], .nils] [(0, .t 47)]⟩, ⟨some 49, none, .app 20 5 (.t 46) (.t 48)⟩, ⟨some 5, none, .mv (.t 49)⟩])))))))))) (.keep [1, 4, 5, 24, 25] (.ops [⟨some 50, none, .bin .add (.t 25) (.k (.int .i64 1))⟩, ⟨some 25, none, .mv (.t 50)⟩])))))))))) (.keep [5] (.seq (.ops [⟨some 51, none, .mv (.t 5)⟩, ⟨some 2, none, .mv (.t 51)⟩, ⟨some 3, none, .mv (.k (.int .i64 0))⟩]) .ret))))))) }
structure N132 (R : Env) : Prop where
  o132 : R.Fn 132 c132
  n151 : N151 R
  n152 : N152 R
  n153 : N153 R
def c381 : IFn := { np := 1, rs := [.t 2], body := (.seq (.ops [⟨some 1, none, .box 20 (.t 0)⟩, ⟨some 2, none, .mv (.k (.str []))⟩]) (.seq (.draw [0, 1, 3, 7, 15, 0, 32, 103, 255, 511, 0, 1024, 3303, 8191, 16383, 0, 32768, 131071, 262143, 524287] [[1], [3], [4], [5], [6], [1], [8], [9], [7, 10], [11], [1], [13], [14], [12, 15], [16], [1], [18], [17, 19], [20], [21]] [⟨some 3, none, .fldA 0 (.t 1)⟩, ⟨some 4, none, .load false 1 (.t 3)⟩, ⟨some 5, none, .call 393 [.t 4]⟩, ⟨some 6, none, .bst .add (.k (.str [80, 55, 10, 87, 73, 68, 84, 72, 32])) (.t 5)⟩, ⟨some 7, none, .bst .add (.t 6) (.k (.str [10, 72, 69, 73, 71, 72, 84, 32]))⟩, ⟨some 8, none, .fldA 1 (.t 1)⟩, ⟨some 9, none, .load false 1 (.t 8)⟩, ⟨some 10, none, .call 393 [.t 9]⟩, ⟨some 11, none, .bst .add (.t 7) (.t 10)⟩, ⟨some 12, none, .bst .add (.t 11) (.k (.str [10, 68, 69, 80, 84, 72, 32]))⟩, ⟨some 13, none, .fldA 2 (.t 1)⟩, ⟨some 14, none, .load false 1 (.t 13)⟩, ⟨some 15, none, .call 393 [.t 14]⟩, ⟨some 16, none, .bst .add (.t 12) (.t 15)⟩, ⟨some 17, none, .bst .add (.t 16) (.k (.str [10, 77, 65, 88, 86, 65, 76, 32, 54, 53, 53, 51, 53, 10, 84, 85, 80, 76, 84, 89, 80, 69, 32]))⟩, ⟨some 18, none, .fldA 3 (.t 1)⟩, ⟨some 19, none, .load false 1 (.t 18)⟩, ⟨some 20, none, .bst .add (.t 17) (.t 19)⟩, ⟨some 21, none, .bst .add (.t 20) (.k (.str [10, 69, 78, 68, 72, 68, 82, 10]))⟩, ⟨some 2, none, .mv (.t 21)⟩]) (.keep [2] .ret))) }
structure N381 (R : Env) : Prop where
  o381 : R.Fn 381 c381
  n393 : N393 R
def c365 : IFn := { np := 1, rs := [.t 2, .t 3], body := (.seq (.ops [⟨some 1, none, .box 20 (.t 0)⟩, ⟨some 2, none, .mv (.k (.nils))⟩, ⟨some 3, none, .mv (.k (.int .i64 0))⟩]) (.seq (.seq (.ops [⟨some 8, none, .load true 5 (.t 1)⟩, ⟨some 9, none, .call 153 [.t 8]⟩, ⟨some 4, none, .mv (.t 9)⟩]) (.seq (.ops [⟨some 10, none, .mv (.t 4)⟩, ⟨some 11, none, .bin .neq (.t 10) (.k (.int .i64 0))⟩]) (.cond (.t 11) (.seq (.ops [⟨some 12, none, .mv (.t 4)⟩, ⟨some 2, none, .mv (.k (.nils))⟩, ⟨some 3, none, .mv (.t 12)⟩]) .ret) .skip))) (.keep [1] (.seq (.ops [⟨some 13, none, .load true 5 (.t 1)⟩, ⟨some 14, none, .call 381 [.t 13]⟩, ⟨some 15, none, .s2b 4 (.t 14)⟩, ⟨some 5, none, .mv (.t 15)⟩]) (.seq (.seq (.ops [⟨some 16, none, .fldA 4 (.t 1)⟩, ⟨some 17, none, .load false 1 (.t 16)⟩, ⟨some 18, none, .lenS (.t 17)⟩, ⟨some 19, none, .mv (.k (.int .i64 0))⟩]) (.keep [5, 17, 18, 19] (.block 0 (.loop (.seq (.ops [⟨some 20, none, .bin .lss (.t 19) (.t 18)⟩]) (.seq (.cond (.t 20) .skip (.exit 0)) (.keep [5, 17, 18, 19] (.seq (.block 1 (.seq (.ops [⟨some 21, none, .idxS 1 (.t 17) (.t 19)⟩, ⟨some 22, none, .load false 1 (.t 21)⟩, ⟨some 7, none, .mv (.t 22)⟩]) (.ops [⟨some 23, none, .mv (.t 5)⟩, ⟨some 24, none, .mv (.t 7)⟩, ⟨some 25, none, .bin .shr (.t 24) (.k (.int .u64 8))⟩, ⟨some 26, none, .conv .u8 (.t 25)⟩, ⟨some 27, none, .mv (.t 7)⟩, ⟨some 28, none, .conv .u8 (.t 27)⟩, ⟨some 29, none, .bslice 4 1 2 [.int .u8 0] [(0, .t 26), (1, .t 28)]⟩, ⟨some 30, none, .app 4 1 (.t 23) (.t 29)⟩, ⟨some 5, none, .mv (.t 30)⟩]))) (.keep [5, 17, 18, 19] (.ops [⟨some 31, none, .bin .add (.t 19) (.k (.int .i64 1))⟩, ⟨some 19, none, .mv (.t 31)⟩])))))))))) (.keep [5] (.seq (.ops [⟨some 32, none, .mv (.t 5)⟩, ⟨some 2, none, .mv (.t 32)⟩, ⟨some 3, none, .mv (.k (.int .i64 0))⟩]) .ret))))))) }
structure N365 (R : Env) : Prop where
  o365 : R.Fn 365 c365
  n153 : N153 R
  n381 : N381 R
def c383 : IFn := { np := 2, rs := [.t 3], body := (.seq (.ops [⟨some 3, none, .mv (.k (.nils))⟩]) (.seq (.ops [⟨some 4, none, .bslice 10 1 0 [.int .i64 0] []⟩, ⟨some 5, none, .load false 1 (.t 1)⟩, ⟨some 6, none, .mv (.t 0)⟩, ⟨some 7, none, .idxS 5 (.t 5) (.t 6)⟩, ⟨some 8, none, .fldA 4 (.t 7)⟩, ⟨some 9, none, .load false 1 (.t 8)⟩, ⟨some 10, none, .app 10 1 (.t 4) (.t 9)⟩, ⟨some 3, none, .mv (.t 10)⟩]) (.keep [3] .ret))) }
structure N383 (R : Env) : Prop where
  o383 : R.Fn 383 c383
def c384 : IFn := { np := 1, rs := [.t 2], body := (.seq (.ops [⟨some 2, none, .mv (.k (.nils))⟩]) (.seq (.ops [⟨some 3, none, .mv (.k (.nils))⟩]) (.seq (.seq (.ops [⟨some 4, none, .mv (.k (.int .i64 0))⟩]) (.keep [0, 3, 4] (.block 0 (.loop (.seq (.seq (.ops [⟨some 5, none, .mv (.t 4)⟩, ⟨some 6, none, .bin .add (.t 5) (.k (.int .i64 3))⟩, ⟨some 7, none, .mv (.t 0)⟩, ⟨some 8, none, .lenS (.t 7)⟩, ⟨some 9, none, .bin .leq (.t 6) (.t 8)⟩]) (.keep [0, 3, 4, 9] (.cond (.t 9) .skip (.exit 0)))) (.keep [0, 3, 4] (.seq (.block 1 (.ops [⟨some 12, none, .mv (.t 3)⟩, ⟨some 13, none, .mv (.t 0)⟩, ⟨some 14, none, .mv (.t 4)⟩, ⟨some 15, none, .mv (.t 4)⟩, ⟨some 16, none, .bin .add (.t 15) (.k (.int .i64 3))⟩, ⟨some 17, none, .slcS 10 1 (.t 13) (some (.t 14)) (some (.t 16)) none⟩, ⟨some 18, none, .s2a 3 1 (.t 17)⟩, ⟨some 19, none, .load true 3 (.t 18)⟩, ⟨some 20, none, .bslice 13 3 1 [.int .i64 0, .int .i64 0, .int .i64 0] [(0, .t 19)]⟩, ⟨some 21, none, .app 13 3 (.t 12) (.t 20)⟩, ⟨some 3, none, .mv (.t 21)⟩])) (.keep [0, 3, 4] (.ops [⟨some 10, none, .mv (.t 4)⟩, ⟨some 11, none, .bin .add (.t 10) (.k (.int .i64 3))⟩, ⟨some 4, none, .mv (.t 11)⟩]))))))))) (.keep [3] (.seq (.ops [⟨some 22, none, .mv (.t 3)⟩, ⟨some 2, none, .mv (.t 22)⟩]) .ret))))) }
structure N384 (R : Env) : Prop where
  o384 : R.Fn 384 c384
def c369 : IFn := { np := 1, rs := [.cell 2 true 8, .t 3], body := (.seq (.ops [⟨some 1, none, .box 50 (.t 0)⟩, ⟨some 2, none, .alloc 16 [.int .i64 0, .int .i64 0, .nils, .nils, .nils, .nils, .nils, .nils]⟩, ⟨some 3, none, .mv (.k (.int .i64 0))⟩]) (.seq (.ops [⟨some 11, none, .call 152 []⟩, ⟨some 4, none, .alloc 21 [.int .i64 0, .int .i64 0, .int .i64 0, .str [], .nils, .int .i64 0, .int .i64 0, .int .i64 0, .str [], .nils, .int .i64 0, .int .i64 0, .int .i64 0, .str [], .nils, .int .i64 0, .int .i64 0, .int .i64 0, .str [], .nils, .int .i64 0, .int .i64 0, .int .i64 0, .str [], .nils, .int .i64 0, .int .i64 0, .int .i64 0, .str [], .nils]⟩, ⟨none, none, .store 30 (.t 4) (.t 11)⟩]) (.seq (.seq (.ops [⟨some 12, none, .load false 1 (.t 1)⟩, ⟨some 13, none, .lenS (.t 12)⟩, ⟨some 14, none, .bin .neq (.t 13) (.k (.int .i64 6))⟩]) (.cond (.t 14) (.seq (.ops [⟨some 15, none, .build [.int .i64 0, .int .i64 0, .nils, .nils, .nils, .nils, .nils, .nils] []⟩, ⟨none, none, .store 8 (.t 2) (.t 15)⟩, ⟨some 3, none, .mv (.k (.int .i64 5))⟩]) .ret) .skip)) (.keep [1, 2, 4] (.seq (.seq (.ops [⟨some 16, none, .load false 1 (.t 1)⟩, ⟨some 17, none, .lenS (.t 16)⟩, ⟨some 18, none, .mv (.k (.int .i64 0))⟩]) (.keep [1, 2, 4, 16, 17, 18] (.block 0 (.loop (.seq (.ops [⟨some 19, none, .bin .lss (.t 18) (.t 17)⟩]) (.seq (.cond (.t 19) .skip (.exit 0)) (.keep [1, 2, 4, 16, 17, 18] (.seq (.block 1 (.seq (.ops [⟨some 20, none, .mv (.t 18)⟩, ⟨some 21, none, .idxS 5 (.t 16) (.t 18)⟩, ⟨some 22, none, .load true 5 (.t 21)⟩, ⟨some 6, none, .alloc 20 [.int .i64 0, .int .i64 0, .int .i64 0, .str [], .nils]⟩, ⟨some 5, none, .mv (.t 20)⟩, ⟨none, none, .store 5 (.t 6) (.t 22)⟩]) (.keep [1, 2, 4, 5, 6, 16, 17, 18] (.seq (.draw [0, 1, 0, 4, 12, 28, 63, 127, 255, 511, 255, 1279, 3327, 7423, 16383, 32767, 65535, 131071, 262143, 131071, 655359, 1703935, 3801087, 8388607, 16777215, 33554431, 67108863, 134217727, 67108863, 335544319, 872415231, 1946157055, 4294967295, 8589934591] [[6], [23], [5], [4, 25], [26], [27], [24, 28], [29], [6], [31], [5], [4, 33], [34], [35], [32, 36], [30, 37], [38], [6], [40], [1], [42], [43], [44], [41, 45], [39, 46], [47], [6], [49], [1], [51], [52], [53], [50, 54], [48, 55]] [⟨some 23, none, .fldA 3 (.t 6)⟩, ⟨some 24, none, .load false 1 (.t 23)⟩, ⟨some 25, none, .mv (.t 5)⟩, ⟨some 26, none, .idxA 6 5 (.t 4) (.t 25)⟩, ⟨some 27, none, .fldA 3 (.t 26)⟩, ⟨some 28, none, .load false 1 (.t 27)⟩, ⟨some 29, none, .bst .neq (.t 24) (.t 28)⟩, ⟨some 30, none, .mv (.t 29)⟩, ⟨some 31, some (30, false), .fldA 2 (.t 6)⟩, ⟨some 32, some (30, false), .load false 1 (.t 31)⟩, ⟨some 33, some (30, false), .mv (.t 5)⟩, ⟨some 34, some (30, false), .idxA 6 5 (.t 4) (.t 33)⟩, ⟨some 35, some (30, false), .fldA 2 (.t 34)⟩, ⟨some 36, some (30, false), .load false 1 (.t 35)⟩, ⟨some 37, some (30, false), .bin .neq (.t 32) (.t 36)⟩, ⟨some 38, none, .pick (.t 30) (.k (.bool true)) (.t 37)⟩, ⟨some 39, none, .mv (.t 38)⟩, ⟨some 40, some (39, false), .fldA 0 (.t 6)⟩, ⟨some 41, some (39, false), .load false 1 (.t 40)⟩, ⟨some 42, some (39, false), .load false 1 (.t 1)⟩, ⟨some 43, some (39, false), .idxS 5 (.t 42) (.k (.int .i64 0))⟩, ⟨some 44, some (39, false), .fldA 0 (.t 43)⟩, ⟨some 45, some (39, false), .load false 1 (.t 44)⟩, ⟨some 46, some (39, false), .bin .neq (.t 41) (.t 45)⟩, ⟨some 47, none, .pick (.t 39) (.k (.bool true)) (.t 46)⟩, ⟨some 48, none, .mv (.t 47)⟩, ⟨some 49, some (48, false), .fldA 1 (.t 6)⟩, ⟨some 50, some (48, false), .load false 1 (.t 49)⟩, ⟨some 51, some (48, false), .load false 1 (.t 1)⟩, ⟨some 52, some (48, false), .idxS 5 (.t 51) (.k (.int .i64 0))⟩, ⟨some 53, some (48, false), .fldA 1 (.t 52)⟩, ⟨some 54, some (48, false), .load false 1 (.t 53)⟩, ⟨some 55, some (48, false), .bin .neq (.t 50) (.t 54)⟩, ⟨some 56, none, .pick (.t 48) (.k (.bool true)) (.t 55)⟩]) (.keep [1, 2, 4, 16, 17, 18, 56] (.cond (.t 56) (.seq (.ops [⟨some 57, none, .build [.int .i64 0, .int .i64 0, .nils, .nils, .nils, .nils, .nils, .nils] []⟩, ⟨none, none, .store 8 (.t 2) (.t 57)⟩, ⟨some 3, none, .mv (.k (.int .i64 5))⟩]) .ret) .skip)))))) (.keep [1, 2, 4, 16, 17, 18] (.ops [⟨some 58, none, .bin .add (.t 18) (.k (.int .i64 1))⟩, ⟨some 18, none, .mv (.t 58)⟩])))))))))) (.keep [1, 2] (.seq (.seq (.ops [⟨some 59, none, .load false 1 (.t 1)⟩, ⟨some 60, none, .lenS (.t 59)⟩, ⟨some 61, none, .mv (.k (.int .i64 0))⟩]) (.keep [1, 2, 59, 60, 61] (.block 2 (.loop (.seq (.ops [⟨some 62, none, .bin .lss (.t 61) (.t 60)⟩]) (.seq (.cond (.t 62) .skip (.exit 2)) (.keep [1, 2, 59, 60, 61] (.seq (.block 3 (.seq (.ops [⟨some 63, none, .idxS 5 (.t 59) (.t 61)⟩, ⟨some 64, none, .load true 5 (.t 63)⟩, ⟨some 8, none, .alloc 20 [.int .i64 0, .int .i64 0, .int .i64 0, .str [], .nils]⟩, ⟨none, none, .store 5 (.t 8) (.t 64)⟩]) (.seq (.ops [⟨some 65, none, .load true 5 (.t 8)⟩, ⟨some 66, none, .call 153 [.t 65]⟩, ⟨some 9, none, .mv (.t 66)⟩]) (.seq (.ops [⟨some 67, none, .mv (.t 9)⟩, ⟨some 68, none, .bin .neq (.t 67) (.k (.int .i64 0))⟩]) (.cond (.t 68) (.seq (.ops [⟨some 69, none, .build [.int .i64 0, .int .i64 0, .nils, .nils, .nils, .nils, .nils, .nils] []⟩, ⟨some 70, none, .mv (.t 9)⟩, ⟨none, none, .store 8 (.t 2) (.t 69)⟩, ⟨some 3, none, .mv (.t 70)⟩]) .ret) .skip))))) (.keep [1, 2, 59, 60, 61] (.ops [⟨some 71, none, .bin .add (.t 61) (.k (.int .i64 1))⟩, ⟨some 61, none, .mv (.t 71)⟩])))))))))) (.keep [1, 2] (.seq (.ops [⟨some 72, none, .mkf 383 [.t 1]⟩, ⟨some 10, none, .mv (.t 72)⟩]) (.seq (.draw [0, 1, 3, 7, 0, 16, 48, 112, 0, 256, 768, 1792, 3840, 0, 16128, 0, 65280, 0, 131072, 393216, 917504, 2096896, 0, 8388352, 0, 33554176, 67108863, 134217727, 268435455] [[1], [73], [74], [75], [1], [77], [78], [79], [1], [81], [82], [83], [84], [10], [86], [10], [88], [1], [90], [91], [92], [93], [10], [95], [10], [97], [76, 80, 85, 87, 89, 94, 96, 98], [2, 99], []] [⟨some 73, none, .load false 1 (.t 1)⟩, ⟨some 74, none, .idxS 5 (.t 73) (.k (.int .i64 0))⟩, ⟨some 75, none, .fldA 0 (.t 74)⟩, ⟨some 76, none, .load false 1 (.t 75)⟩, ⟨some 77, none, .load false 1 (.t 1)⟩, ⟨some 78, none, .idxS 5 (.t 77) (.k (.int .i64 0))⟩, ⟨some 79, none, .fldA 1 (.t 78)⟩, ⟨some 80, none, .load false 1 (.t 79)⟩, ⟨some 81, none, .load false 1 (.t 1)⟩, ⟨some 82, none, .idxS 5 (.t 81) (.k (.int .i64 0))⟩, ⟨some 83, none, .fldA 4 (.t 82)⟩, ⟨some 84, none, .load false 1 (.t 83)⟩, ⟨some 85, none, .call 384 [.t 84]⟩, ⟨some 86, none, .mv (.t 10)⟩, ⟨some 87, none, .callr (.t 86) [.k (.int .i64 1)]⟩, ⟨some 88, none, .mv (.t 10)⟩, ⟨some 89, none, .callr (.t 88) [.k (.int .i64 2)]⟩, ⟨some 90, none, .load false 1 (.t 1)⟩, ⟨some 91, none, .idxS 5 (.t 90) (.k (.int .i64 3))⟩, ⟨some 92, none, .fldA 4 (.t 91)⟩, ⟨some 93, none, .load false 1 (.t 92)⟩, ⟨some 94, none, .call 384 [.t 93]⟩, ⟨some 95, none, .mv (.t 10)⟩, ⟨some 96, none, .callr (.t 95) [.k (.int .i64 4)]⟩, ⟨some 97, none, .mv (.t 10)⟩, ⟨some 98, none, .callr (.t 97) [.k (.int .i64 5)]⟩, ⟨some 99, none, .build [.int .i64 0, .int .i64 0, .nils, .nils, .nils, .nils, .nils, .nils] [(0, 1, .t 76), (1, 1, .t 80), (2, 1, .t 85), (3, 1, .t 87), (4, 1, .t 89), (5, 1, .t 94), (6, 1, .t 96), (7, 1, .t 98)]⟩, ⟨none, none, .store 8 (.t 2) (.t 99)⟩, ⟨some 3, none, .mv (.k (.int .i64 0))⟩]) (.keep [2, 3] .ret))))))))))) }
structure N369 (R : Env) : Prop where
  o369 : R.Fn 369 c369
  n152 : N152 R
  n153 : N153 R
  n383 : N383 R
  n384 : N384 R
def c395 : IFn := { np := 2, rs := [], body := (.block 0 (.loop (.block 1 (.seq (.ops [⟨some 4, none, .load false 1 (.t 1)⟩, ⟨some 5, none, .call 397 [.t 4, .k (.int .u8 10)]⟩, ⟨some 3, none, .mv (.t 5)⟩]) (.seq (.seq (.drawp [0, 1, 3, 7, 7, 7, 7, 119, 247, 7, 7, 1031, 3591] [[3], [6], [7], [0], [1], [3], [3], [10, 11, 12], [13], [1], [3], [16], [15, 17]] [⟨some 6, none, .mv (.t 3)⟩, ⟨some 7, none, .bin .lss (.t 6) (.k (.int .i64 0))⟩, ⟨some 8, none, .mv (.t 7)⟩, ⟨some 9, some (8, false), .mv (.t 0)⟩, ⟨some 10, some (8, false), .load false 1 (.t 1)⟩, ⟨some 11, some (8, false), .mv (.t 3)⟩, ⟨some 12, some (8, false), .mv (.t 3)⟩, ⟨some 13, some (8, false), .slcS 4 1 (.t 10) none (some (.t 11)) (some (.t 12))⟩, ⟨some 14, some (8, false), .b2s (.t 13)⟩, ⟨some 15, some (8, false), .load false 1 (.t 1)⟩, ⟨some 16, some (8, false), .mv (.t 3)⟩, ⟨some 17, some (8, false), .bin .add (.t 16) (.k (.int .i64 1))⟩, ⟨some 18, some (8, false), .slcS 4 1 (.t 15) (some (.t 17)) none none⟩] [⟨some 19, some (8, false), .callv (.t 9) [.t 14, .t 18]⟩, ⟨some 20, some (8, false), .un .not (.t 19)⟩, ⟨some 21, none, .pick (.t 8) (.k (.bool true)) (.t 20)⟩]) (.keep [0, 1, 3, 21] (.cond (.t 21) .ret .skip))) (.keep [0, 1, 3] (.ops [⟨some 22, none, .load false 1 (.t 1)⟩, ⟨some 23, none, .mv (.t 3)⟩, ⟨some 24, none, .bin .add (.t 23) (.k (.int .i64 1))⟩, ⟨some 25, none, .slcS 4 1 (.t 22) (some (.t 24)) none none⟩, ⟨none, none, .store 1 (.t 1) (.t 25)⟩]))))))) }
structure N395 (R : Env) : Prop where
  o395 : R.Fn 395 c395
  n397 : N397 R
def c386 : IFn := { np := 1, rs := [.t 2], body := (.seq (.ops [⟨some 1, none, .box 51 (.t 0)⟩, ⟨some 2, none, .mv (.k (.nilf))⟩]) (.seq (.ops [⟨some 3, none, .mkf 395 [.t 1]⟩, ⟨some 2, none, .mv (.t 3)⟩]) .ret)) }
structure N386 (R : Env) : Prop where
  o386 : R.Fn 386 c386
  n395 : N395 R
def c387 : IFn := { np := 2, rs := [.t 4, .t 5], body := (.seq (.ops [⟨some 4, none, .mv (.k (.str []))⟩, ⟨some 5, none, .mv (.k (.bool false))⟩]) (.seq (.seq (.ops [⟨some 6, none, .mv (.t 0)⟩, ⟨some 7, none, .lenT (.t 6)⟩, ⟨some 8, none, .mv (.t 1)⟩, ⟨some 9, none, .lenT (.t 8)⟩, ⟨some 10, none, .bin .add (.t 9) (.k (.int .i64 1))⟩, ⟨some 11, none, .bin .leq (.t 7) (.t 10)⟩, ⟨some 12, none, .mv (.t 11)⟩, ⟨some 13, some (12, false), .mv (.t 0)⟩, ⟨some 14, some (12, false), .mv (.t 1)⟩, ⟨some 15, some (12, false), .lenT (.t 14)⟩, ⟨some 16, some (12, false), .slcT (.t 13) none (some (.t 15))⟩, ⟨some 17, some (12, false), .mv (.t 1)⟩, ⟨some 18, some (12, false), .bst .neq (.t 16) (.t 17)⟩, ⟨some 19, none, .pick (.t 12) (.k (.bool true)) (.t 18)⟩, ⟨some 20, none, .mv (.t 19)⟩, ⟨some 21, some (20, false), .mv (.t 0)⟩, ⟨some 22, some (20, false), .mv (.t 1)⟩, ⟨some 23, some (20, false), .lenT (.t 22)⟩, ⟨some 24, some (20, false), .idxT (.t 21) (.t 23)⟩, ⟨some 25, some (20, false), .bin .neq (.t 24) (.k (.int .u8 32))⟩, ⟨some 26, none, .pick (.t 20) (.k (.bool true)) (.t 25)⟩]) (.keep [0, 1, 26] (.cond (.t 26) (.seq (.ops [⟨some 4, none, .mv (.k (.str []))⟩, ⟨some 5, none, .mv (.k (.bool false))⟩]) .ret) .skip))) (.keep [0, 1] (.seq (.ops [⟨some 27, none, .mv (.t 0)⟩, ⟨some 28, none, .mv (.t 1)⟩, ⟨some 29, none, .lenT (.t 28)⟩, ⟨some 30, none, .bin .add (.t 29) (.k (.int .i64 1))⟩, ⟨some 31, none, .slcT (.t 27) (some (.t 30)) none⟩, ⟨some 4, none, .mv (.t 31)⟩, ⟨some 5, none, .mv (.k (.bool true))⟩]) (.keep [4, 5] .ret))))) }
structure N387 (R : Env) : Prop where
  o387 : R.Fn 387 c387
def c388 : IFn := { np := 1, rs := [.t 2], body := (.seq (.ops [⟨some 2, none, .mv (.k (.int .i64 0))⟩]) (.seq (.ops [⟨some 3, none, .mv (.k (.int .i64 0))⟩]) (.seq (.seq (.ops [⟨some 6, none, .mv (.t 0)⟩, ⟨some 7, none, .s2b 4 (.t 6)⟩, ⟨some 8, none, .lenS (.t 7)⟩, ⟨some 9, none, .mv (.k (.int .i64 0))⟩]) (.keep [3, 7, 8, 9] (.block 0 (.loop (.seq (.ops [⟨some 10, none, .bin .lss (.t 9) (.t 8)⟩]) (.seq (.cond (.t 10) .skip (.exit 0)) (.keep [3, 7, 8, 9] (.seq (.block 1 (.seq (.ops [⟨some 11, none, .mv (.t 9)⟩, ⟨some 12, none, .idxS 1 (.t 7) (.t 9)⟩, ⟨some 13, none, .load false 1 (.t 12)⟩, ⟨some 4, none, .mv (.t 11)⟩, ⟨some 5, none, .mv (.t 13)⟩]) (.keep [3, 4, 5, 7, 8, 9] (.seq (.seq (.ops [⟨some 14, none, .mv (.t 5)⟩, ⟨some 15, none, .bin .lss (.t 14) (.k (.int .u8 48))⟩, ⟨some 16, none, .mv (.t 15)⟩, ⟨some 17, some (16, false), .mv (.t 5)⟩, ⟨some 18, some (16, false), .bin .gtr (.t 17) (.k (.int .u8 57))⟩, ⟨some 19, none, .pick (.t 16) (.k (.bool true)) (.t 18)⟩, ⟨some 20, none, .mv (.t 19)⟩, ⟨some 21, some (20, false), .mv (.t 4)⟩, ⟨some 22, some (20, false), .bin .gtr (.t 21) (.k (.int .i64 3))⟩, ⟨some 23, none, .pick (.t 20) (.k (.bool true)) (.t 22)⟩, ⟨some 24, none, .mv (.t 23)⟩, ⟨some 25, some (24, false), .mv (.t 4)⟩, ⟨some 26, some (24, false), .bin .eql (.t 25) (.k (.int .i64 0))⟩, ⟨some 27, some (24, false), .mv (.t 26)⟩, ⟨some 28, some (27, true), .mv (.t 5)⟩, ⟨some 29, some (27, true), .bin .eql (.t 28) (.k (.int .u8 48))⟩, ⟨some 30, some (24, false), .pick (.t 27) (.t 29) (.k (.bool false))⟩, ⟨some 31, none, .pick (.t 24) (.k (.bool true)) (.t 30)⟩]) (.keep [3, 5, 7, 8, 9, 31] (.cond (.t 31) (.seq (.ops [⟨some 2, none, .mv (.k (.int .i64 (-1)))⟩]) .ret) .skip))) (.keep [3, 5, 7, 8, 9] (.ops [⟨some 32, none, .mv (.t 3)⟩, ⟨some 33, none, .bin .mul (.t 32) (.k (.int .i64 10))⟩, ⟨some 34, none, .mv (.t 5)⟩, ⟨some 35, none, .bin .sub (.t 34) (.k (.int .u8 48))⟩, ⟨some 36, none, .conv .i64 (.t 35)⟩, ⟨some 37, none, .bin .add (.t 33) (.t 36)⟩, ⟨some 3, none, .mv (.t 37)⟩])))))) (.keep [3, 7, 8, 9] (.ops [⟨some 38, none, .bin .add (.t 9) (.k (.int .i64 1))⟩, ⟨some 9, none, .mv (.t 38)⟩])))))))))) (.keep [3] (.seq (.ops [⟨some 39, none, .mv (.t 3)⟩, ⟨some 2, none, .mv (.t 39)⟩]) .ret))))) }
structure N388 (R : Env) : Prop where
  o388 : R.Fn 388 c388
def c372lp : ILp := { ps := [17, 18], ss := [3, 5, 6, 7], asg := (.seq (.ops [⟨some 8, none, .mv (.t 17)⟩]) (.ops [⟨some 9, none, .mv (.t 18)⟩])), body := (.block 1 (.seq (.seq (.ops [⟨some 20, none, .mv (.t 8)⟩, ⟨some 21, none, .load false 1 (.t 6)⟩, ⟨some 22, none, .load false 1 (.t 5)⟩, ⟨some 23, none, .idxS 1 (.t 21) (.t 22)⟩, ⟨some 24, none, .load false 1 (.t 23)⟩, ⟨some 25, none, .call 387 [.t 20, .t 24]⟩, ⟨some 19, none, .mv (.t 25)⟩, ⟨some 26, none, .ext (.t 19) 0⟩, ⟨some 27, none, .ext (.t 19) 1⟩, ⟨some 10, none, .mv (.t 26)⟩, ⟨some 11, none, .mv (.t 27)⟩]) (.keep [3, 5, 6, 7, 9, 10, 11] (.seq (.ops [⟨some 28, none, .mv (.t 11)⟩, ⟨some 29, none, .mv (.t 28)⟩, ⟨some 30, some (29, true), .load false 1 (.t 6)⟩, ⟨some 31, some (29, true), .load false 1 (.t 5)⟩, ⟨some 32, some (29, true), .idxS 1 (.t 30) (.t 31)⟩, ⟨some 33, some (29, true), .load false 1 (.t 32)⟩, ⟨some 34, some (29, true), .bst .neq (.t 33) (.k (.str []))⟩, ⟨some 35, none, .pick (.t 29) (.t 34) (.k (.bool false))⟩]) (.keep [3, 5, 6, 7, 9, 10, 35] (.cond (.t 35) (.seq (.ops [⟨some 36, none, .load false 1 (.t 5)⟩]) (.block 2 (.seq (.ops [⟨some 38, none, .bin .eql (.t 36) (.k (.int .i64 1))⟩, ⟨some 37, none, .mv (.t 38)⟩]) (.cond (.t 37) (.ops [⟨some 39, none, .mv (.t 10)⟩, ⟨some 40, none, .call 388 [.t 39]⟩, ⟨some 41, none, .fldA 0 (.t 7)⟩, ⟨none, none, .store 1 (.t 41) (.t 40)⟩]) (.seq (.ops [⟨some 43, none, .bin .eql (.t 36) (.k (.int .i64 2))⟩, ⟨some 42, none, .mv (.t 43)⟩]) (.cond (.t 42) (.ops [⟨some 44, none, .mv (.t 10)⟩, ⟨some 45, none, .call 388 [.t 44]⟩, ⟨some 46, none, .fldA 1 (.t 7)⟩, ⟨none, none, .store 1 (.t 46) (.t 45)⟩]) (.seq (.ops [⟨some 48, none, .bin .eql (.t 36) (.k (.int .i64 3))⟩, ⟨some 47, none, .mv (.t 48)⟩]) (.cond (.t 47) (.ops [⟨some 49, none, .mv (.t 10)⟩, ⟨some 50, none, .call 388 [.t 49]⟩, ⟨some 51, none, .fldA 2 (.t 7)⟩, ⟨none, none, .store 1 (.t 51) (.t 50)⟩]) (.seq (.ops [⟨some 53, none, .bin .eql (.t 36) (.k (.int .i64 5))⟩, ⟨some 52, none, .mv (.t 53)⟩]) (.cond (.t 52) (.ops [⟨some 54, none, .mv (.t 10)⟩, ⟨some 55, none, .fldA 3 (.t 7)⟩, ⟨none, none, .store 1 (.t 55) (.t 54)⟩]) .skip)))))))))) .skip))))) (.keep [3, 5, 6, 9] (.seq (.ops [⟨some 56, none, .mv (.t 9)⟩, ⟨none, none, .store 1 (.t 3) (.t 56)⟩]) (.seq (.ops [⟨some 57, none, .load false 1 (.t 5)⟩, ⟨some 58, none, .bin .add (.t 57) (.k (.int .i64 1))⟩, ⟨none, none, .store 1 (.t 5) (.t 58)⟩]) (.seq (.ops [⟨some 59, none, .load false 1 (.t 5)⟩, ⟨some 60, none, .load false 1 (.t 6)⟩, ⟨some 61, none, .lenS (.t 60)⟩, ⟨some 62, none, .bin .eql (.t 59) (.t 61)⟩]) (.cond (.t 62) (.exit 0) .skip))))))) }
def c372 : IFn := { np := 1, rs := [.cell 2 true 5, .cell 3 false 1, .t 4], body := (.seq (.ops [⟨some 2, none, .alloc 20 [.int .i64 0, .int .i64 0, .int .i64 0, .str [], .nils]⟩, ⟨some 3, none, .alloc 51 [.nils]⟩, ⟨some 4, none, .mv (.k (.int .i64 0))⟩]) (.seq (.ops [⟨some 5, none, .alloc 10 [.int .i64 0]⟩, ⟨none, none, .store 1 (.t 5) (.k (.int .i64 0))⟩]) (.seq (.ops [⟨some 14, none, .bslice 23 1 7 [.str []] [(0, .k (.str [])), (1, .k (.str [87, 73, 68, 84, 72])), (2, .k (.str [72, 69, 73, 71, 72, 84])), (3, .k (.str [68, 69, 80, 84, 72])), (4, .k (.str [])), (5, .k (.str [84, 85, 80, 76, 84, 89, 80, 69])), (6, .k (.str []))]⟩, ⟨some 6, none, .alloc 52 [.nils]⟩, ⟨none, none, .store 1 (.t 6) (.t 14)⟩]) (.seq (.ops [⟨some 7, none, .alloc 20 [.int .i64 0, .int .i64 0, .int .i64 0, .str [], .nils]⟩]) (.seq (.seq (.ops [⟨some 15, none, .mv (.t 0)⟩, ⟨some 16, none, .call 386 [.t 15]⟩]) (.keep [0, 2, 3, 5, 6, 7, 16] (.block 0 (.rangef (.t 16) c372lp.ps c372lp.asg c372lp.body)))) (.keep [0, 2, 3, 7] (.seq (.seq (.ops [⟨some 63, none, .fldA 0 (.t 7)⟩, ⟨some 64, none, .load false 1 (.t 63)⟩, ⟨some 65, none, .call 157 [.t 64, .k (.int .i64 1), .k (.int .i64 64)]⟩, ⟨some 66, none, .un .not (.t 65)⟩, ⟨some 67, none, .mv (.t 66)⟩, ⟨some 68, some (67, false), .fldA 1 (.t 7)⟩, ⟨some 69, some (67, false), .load false 1 (.t 68)⟩, ⟨some 70, some (67, false), .call 157 [.t 69, .k (.int .i64 1), .k (.int .i64 64)]⟩, ⟨some 71, some (67, false), .un .not (.t 70)⟩, ⟨some 72, none, .pick (.t 67) (.k (.bool true)) (.t 71)⟩, ⟨some 73, none, .mv (.t 72)⟩, ⟨some 74, some (73, false), .fldA 2 (.t 7)⟩, ⟨some 75, some (73, false), .load false 1 (.t 74)⟩, ⟨some 76, some (73, false), .call 157 [.t 75, .k (.int .i64 1), .k (.int .i64 4)]⟩, ⟨some 77, some (73, false), .un .not (.t 76)⟩, ⟨some 78, none, .pick (.t 73) (.k (.bool true)) (.t 77)⟩, ⟨some 79, none, .mv (.t 78)⟩, ⟨some 80, some (79, false), .fldA 3 (.t 7)⟩, ⟨some 81, some (79, false), .load false 1 (.t 80)⟩, ⟨some 82, some (79, false), .call 158 [.t 81]⟩, ⟨some 83, some (79, false), .un .not (.t 82)⟩, ⟨some 84, none, .pick (.t 79) (.k (.bool true)) (.t 83)⟩, ⟨some 85, none, .mv (.t 84)⟩, ⟨some 86, some (85, false), .mv (.t 0)⟩, ⟨some 87, some (85, false), .load true 5 (.t 7)⟩, ⟨some 88, some (85, false), .call 381 [.t 87]⟩, ⟨some 89, some (85, false), .s2b 4 (.t 88)⟩, ⟨some 90, some (85, false), .call 389 [.t 86, .t 89]⟩, ⟨some 91, some (85, false), .un .not (.t 90)⟩, ⟨some 92, none, .pick (.t 85) (.k (.bool true)) (.t 91)⟩]) (.keep [2, 3, 7, 92] (.cond (.t 92) (.seq (.ops [⟨some 93, none, .load true 5 (.t 2)⟩, ⟨none, none, .store 5 (.t 2) (.t 93)⟩, ⟨none, none, .store 1 (.t 3) (.k (.nils))⟩, ⟨some 4, none, .mv (.k (.int .i64 5))⟩]) .ret) .skip))) (.keep [2, 3, 7] (.seq (.ops [⟨some 94, none, .fldA 0 (.t 7)⟩, ⟨some 95, none, .load false 1 (.t 94)⟩, ⟨some 96, none, .fldA 1 (.t 7)⟩, ⟨some 97, none, .load false 1 (.t 96)⟩, ⟨some 98, none, .bin .mul (.t 95) (.t 97)⟩, ⟨some 99, none, .fldA 2 (.t 7)⟩, ⟨some 100, none, .load false 1 (.t 99)⟩, ⟨some 101, none, .bin .mul (.t 98) (.t 100)⟩, ⟨some 12, none, .mv (.t 101)⟩]) (.keep [2, 3, 7, 12] (.seq (.seq (.ops [⟨some 102, none, .load false 1 (.t 3)⟩, ⟨some 103, none, .lenS (.t 102)⟩, ⟨some 104, none, .mv (.t 12)⟩, ⟨some 105, none, .bin .mul (.k (.int .i64 2)) (.t 104)⟩, ⟨some 106, none, .bin .lss (.t 103) (.t 105)⟩]) (.keep [2, 3, 7, 12, 106] (.cond (.t 106) (.seq (.ops [⟨some 107, none, .load true 5 (.t 2)⟩, ⟨none, none, .store 5 (.t 2) (.t 107)⟩, ⟨none, none, .store 1 (.t 3) (.k (.nils))⟩, ⟨some 4, none, .mv (.k (.int .i64 4))⟩]) .ret) .skip))) (.keep [2, 3, 7, 12] (.seq (.seq (.ops [⟨some 108, none, .mv (.t 12)⟩, ⟨some 109, none, .mv (.k (.int .i64 0))⟩]) (.keep [2, 3, 7, 12, 108, 109] (.block 3 (.loop (.seq (.ops [⟨some 110, none, .bin .lss (.t 109) (.t 108)⟩]) (.seq (.cond (.t 110) .skip (.exit 3)) (.keep [2, 3, 7, 12, 108, 109] (.seq (.block 4 (.seq (.ops [⟨some 111, none, .mv (.t 109)⟩, ⟨some 13, none, .mv (.t 111)⟩]) (.draw [0, 1, 0, 0, 8, 28, 60, 124, 252, 0, 0, 1024, 3072, 7680, 15872, 32256, 65532, 131068, 262143, 524287, 1048575] [[7], [112], [3], [13], [115], [114, 116], [117], [118], [119], [3], [13], [122], [123], [121, 124], [125], [126], [120, 127], [128], [113, 129], [7], [131, 130]] [⟨some 112, none, .fldA 4 (.t 7)⟩, ⟨some 113, none, .load false 1 (.t 112)⟩, ⟨some 114, none, .load false 1 (.t 3)⟩, ⟨some 115, none, .mv (.t 13)⟩, ⟨some 116, none, .bin .mul (.k (.int .i64 2)) (.t 115)⟩, ⟨some 117, none, .idxS 1 (.t 114) (.t 116)⟩, ⟨some 118, none, .load false 1 (.t 117)⟩, ⟨some 119, none, .conv .i64 (.t 118)⟩, ⟨some 120, none, .bin .shl (.t 119) (.k (.int .u64 8))⟩, ⟨some 121, none, .load false 1 (.t 3)⟩, ⟨some 122, none, .mv (.t 13)⟩, ⟨some 123, none, .bin .mul (.k (.int .i64 2)) (.t 122)⟩, ⟨some 124, none, .bin .add (.t 123) (.k (.int .i64 1))⟩, ⟨some 125, none, .idxS 1 (.t 121) (.t 124)⟩, ⟨some 126, none, .load false 1 (.t 125)⟩, ⟨some 127, none, .conv .i64 (.t 126)⟩, ⟨some 128, none, .bin .or (.t 120) (.t 127)⟩, ⟨some 129, none, .bslice 10 1 1 [.int .i64 0] [(0, .t 128)]⟩, ⟨some 130, none, .app 10 1 (.t 113) (.t 129)⟩, ⟨some 131, none, .fldA 4 (.t 7)⟩, ⟨none, none, .store 1 (.t 131) (.t 130)⟩]))) (.keep [2, 3, 7, 12, 108, 109] (.ops [⟨some 132, none, .bin .add (.t 109) (.k (.int .i64 1))⟩, ⟨some 109, none, .mv (.t 132)⟩])))))))))) (.keep [2, 3, 7, 12] (.seq (.draw [0, 0, 0, 4, 14, 30, 63, 127, 255] [[7], [3], [12], [135], [134, 136], [137], [2, 133], [3, 138], []] [⟨some 133, none, .load true 5 (.t 7)⟩, ⟨some 134, none, .load false 1 (.t 3)⟩, ⟨some 135, none, .mv (.t 12)⟩, ⟨some 136, none, .bin .mul (.k (.int .i64 2)) (.t 135)⟩, ⟨some 137, none, .slcS 4 1 (.t 134) (some (.t 136)) none none⟩, ⟨some 138, none, .call 390 [.t 137]⟩, ⟨none, none, .store 5 (.t 2) (.t 133)⟩, ⟨none, none, .store 1 (.t 3) (.t 138)⟩, ⟨some 4, none, .mv (.k (.int .i64 0))⟩]) (.keep [2, 3, 4] .ret)))))))))))))))) }
structure N372 (R : Env) : Prop where
  o372 : R.Fn 372 c372
  n157 : N157 R
  n158 : N158 R
  n381 : N381 R
  n386 : N386 R
  n387 : N387 R
  n388 : N388 R
  n389 : N389 R
  n390 : N390 R
def c376 : IFn := { np := 1, rs := [.t 2, .t 3], body := (.seq (.ops [⟨some 1, none, .box 16 (.t 0)⟩, ⟨some 2, none, .mv (.k (.nils))⟩, ⟨some 3, none, .mv (.k (.int .i64 0))⟩]) (.seq (.ops [⟨some 12, none, .load true 8 (.t 1)⟩, ⟨some 13, none, .call 132 [.t 12]⟩, ⟨some 11, none, .mv (.t 13)⟩, ⟨some 14, none, .ext (.t 11) 0⟩, ⟨some 15, none, .ext (.t 11) 1⟩, ⟨some 4, none, .mv (.t 14)⟩, ⟨some 5, none, .mv (.t 15)⟩]) (.keep [4, 5] (.seq (.seq (.ops [⟨some 16, none, .mv (.t 5)⟩, ⟨some 17, none, .bin .neq (.t 16) (.k (.int .i64 0))⟩]) (.cond (.t 17) (.seq (.ops [⟨some 18, none, .mv (.t 5)⟩, ⟨some 2, none, .mv (.k (.nils))⟩, ⟨some 3, none, .mv (.t 18)⟩]) .ret) .skip)) (.keep [4] (.seq (.ops [⟨some 6, none, .mv (.k (.nils))⟩]) (.seq (.seq (.ops [⟨some 19, none, .mv (.t 4)⟩, ⟨some 20, none, .lenS (.t 19)⟩, ⟨some 21, none, .mv (.k (.int .i64 0))⟩]) (.keep [6, 19, 20, 21] (.block 0 (.loop (.seq (.ops [⟨some 22, none, .bin .lss (.t 21) (.t 20)⟩]) (.seq (.cond (.t 22) .skip (.exit 0)) (.keep [6, 19, 20, 21] (.seq (.block 1 (.seq (.ops [⟨some 23, none, .idxS 5 (.t 19) (.t 21)⟩, ⟨some 24, none, .load true 5 (.t 23)⟩, ⟨some 8, none, .alloc 20 [.int .i64 0, .int .i64 0, .int .i64 0, .str [], .nils]⟩, ⟨none, none, .store 5 (.t 8) (.t 24)⟩]) (.seq (.ops [⟨some 26, none, .load true 5 (.t 8)⟩, ⟨some 27, none, .call 365 [.t 26]⟩, ⟨some 25, none, .mv (.t 27)⟩, ⟨some 28, none, .ext (.t 25) 0⟩, ⟨some 29, none, .ext (.t 25) 1⟩, ⟨some 9, none, .mv (.t 28)⟩, ⟨some 10, none, .mv (.t 29)⟩]) (.keep [6, 9, 19, 20, 21] (.ops [⟨some 30, none, .mv (.t 6)⟩, ⟨some 31, none, .mv (.t 9)⟩, ⟨some 32, none, .app 4 1 (.t 30) (.t 31)⟩, ⟨some 6, none, .mv (.t 32)⟩]))))) (.keep [6, 19, 20, 21] (.ops [⟨some 33, none, .bin .add (.t 21) (.k (.int .i64 1))⟩, ⟨some 21, none, .mv (.t 33)⟩])))))))))) (.keep [6] (.seq (.ops [⟨some 34, none, .mv (.t 6)⟩, ⟨some 2, none, .mv (.t 34)⟩, ⟨some 3, none, .mv (.k (.int .i64 0))⟩]) .ret))))))))) }
structure N376 (R : Env) : Prop where
  o376 : R.Fn 376 c376
  n132 : N132 R
  n365 : N365 R
def c378 : IFn := { np := 1, rs := [.cell 2 true 8, .t 3], body := (.seq (.ops [⟨some 2, none, .alloc 16 [.int .i64 0, .int .i64 0, .nils, .nils, .nils, .nils, .nils, .nils]⟩, ⟨some 3, none, .mv (.k (.int .i64 0))⟩]) (.seq (.ops [⟨some 4, none, .mv (.k (.nils))⟩]) (.seq (.seq (.ops [⟨some 8, none, .call 152 []⟩, ⟨some 9, none, .mv (.k (.int .i64 6))⟩, ⟨some 10, none, .mv (.k (.int .i64 0))⟩]) (.keep [0, 2, 4, 9, 10] (.block 0 (.loop (.seq (.ops [⟨some 11, none, .bin .lss (.t 10) (.t 9)⟩]) (.seq (.cond (.t 11) .skip (.exit 0)) (.keep [0, 2, 4, 9, 10] (.seq (.block 1 (.seq (.ops [⟨some 13, none, .mv (.t 0)⟩, ⟨some 14, none, .call 372 [.t 13]⟩, ⟨some 12, none, .mv (.t 14)⟩, ⟨some 15, none, .ext (.t 12) 0⟩, ⟨some 16, none, .ext (.t 12) 1⟩, ⟨some 17, none, .ext (.t 12) 2⟩, ⟨some 5, none, .alloc 20 [.int .i64 0, .int .i64 0, .int .i64 0, .str [], .nils]⟩, ⟨none, none, .store 5 (.t 5) (.t 15)⟩, ⟨some 6, none, .mv (.t 16)⟩, ⟨some 7, none, .mv (.t 17)⟩]) (.keep [2, 4, 5, 6, 7, 9, 10] (.seq (.seq (.ops [⟨some 18, none, .mv (.t 7)⟩, ⟨some 19, none, .bin .neq (.t 18) (.k (.int .i64 0))⟩]) (.cond (.t 19) (.seq (.ops [⟨some 20, none, .build [.int .i64 0, .int .i64 0, .nils, .nils, .nils, .nils, .nils, .nils] []⟩, ⟨some 21, none, .mv (.t 7)⟩, ⟨none, none, .store 8 (.t 2) (.t 20)⟩, ⟨some 3, none, .mv (.t 21)⟩]) .ret) .skip)) (.keep [2, 4, 5, 6, 9, 10] (.ops [⟨some 22, none, .mv (.t 4)⟩, ⟨some 23, none, .load true 5 (.t 5)⟩, ⟨some 24, none, .bslice 20 5 1 [.int .i64 0, .int .i64 0, .int .i64 0, .str [], .nils] [(0, .t 23)]⟩, ⟨some 25, none, .app 20 5 (.t 22) (.t 24)⟩, ⟨some 26, none, .mv (.t 6)⟩, ⟨some 4, none, .mv (.t 25)⟩, ⟨some 0, none, .mv (.t 26)⟩])))))) (.keep [0, 2, 4, 9, 10] (.ops [⟨some 27, none, .bin .add (.t 10) (.k (.int .i64 1))⟩, ⟨some 10, none, .mv (.t 27)⟩])))))))))) (.keep [0, 2, 4] (.seq (.seq (.ops [⟨some 28, none, .mv (.t 0)⟩, ⟨some 29, none, .lenS (.t 28)⟩, ⟨some 30, none, .bin .gtr (.t 29) (.k (.int .i64 0))⟩]) (.cond (.t 30) (.seq (.ops [⟨some 31, none, .build [.int .i64 0, .int .i64 0, .nils, .nils, .nils, .nils, .nils, .nils] []⟩, ⟨none, none, .store 8 (.t 2) (.t 31)⟩, ⟨some 3, none, .mv (.k (.int .i64 5))⟩]) .ret) .skip)) (.keep [2, 4] (.seq (.ops [⟨some 32, none, .mv (.t 4)⟩, ⟨some 33, none, .call 369 [.t 32]⟩, ⟨some 34, none, .ext (.t 33) 0⟩, ⟨some 35, none, .ext (.t 33) 1⟩, ⟨none, none, .store 8 (.t 2) (.t 34)⟩, ⟨some 3, none, .mv (.t 35)⟩]) (.keep [2, 3] .ret)))))))) }
structure N378 (R : Env) : Prop where
  o378 : R.Fn 378 c378
  n152 : N152 R
  n369 : N369 R
  n372 : N372 R
end Go.UM

namespace Go.UM
open Go.AM
def c144 : IFn := { np := 2, rs := [.t 4], body := (.seq (.ops [⟨some 4, none, .mv (.k (.bool false))⟩]) (.seq (.seq (.ops [⟨some 6, none, .mv (.t 0)⟩, ⟨some 7, none, .lenS (.t 6)⟩, ⟨some 8, none, .mv (.t 1)⟩, ⟨some 9, none, .lenS (.t 8)⟩, ⟨some 10, none, .bin .neq (.t 7) (.t 9)⟩]) (.keep [0, 1, 10] (.cond (.t 10) (.seq (.ops [⟨some 4, none, .mv (.k (.bool false))⟩]) .ret) .skip))) (.keep [0, 1] (.seq (.seq (.ops [⟨some 5, none, .mv (.k (.int .i64 0))⟩]) (.keep [0, 1, 5] (.block 0 (.loop (.seq (.seq (.ops [⟨some 11, none, .mv (.t 5)⟩, ⟨some 12, none, .mv (.t 0)⟩, ⟨some 13, none, .lenS (.t 12)⟩, ⟨some 14, none, .bin .lss (.t 11) (.t 13)⟩]) (.cond (.t 14) .skip (.exit 0))) (.keep [0, 1, 5] (.seq (.block 1 (.seq (.draw [0, 0, 3, 7, 0, 0, 48, 112, 255] [[0], [5], [17, 18], [19], [1], [5], [21, 22], [23], [20, 24]] [⟨some 17, none, .mv (.t 0)⟩, ⟨some 18, none, .mv (.t 5)⟩, ⟨some 19, none, .idxS 3 (.t 17) (.t 18)⟩, ⟨some 20, none, .load true 3 (.t 19)⟩, ⟨some 21, none, .mv (.t 1)⟩, ⟨some 22, none, .mv (.t 5)⟩, ⟨some 23, none, .idxS 3 (.t 21) (.t 22)⟩, ⟨some 24, none, .load true 3 (.t 23)⟩, ⟨some 25, none, .eqa true [.i, .i, .i] (.t 20) (.t 24)⟩]) (.keep [0, 1, 5, 25] (.cond (.t 25) (.seq (.ops [⟨some 4, none, .mv (.k (.bool false))⟩]) .ret) .skip)))) (.keep [0, 1, 5] (.ops [⟨some 15, none, .mv (.t 5)⟩, ⟨some 16, none, .bin .add (.t 15) (.k (.int .i64 1))⟩, ⟨some 5, none, .mv (.t 16)⟩]))))))))) (.keep [] (.seq (.ops [⟨some 4, none, .mv (.k (.bool true))⟩]) .ret)))))) }
structure N144 (R : Env) : Prop where
  o144 : R.Fn 144 c144
def c145 : IFn := { np := 2, rs := [.t 4], body := (.seq (.ops [⟨some 4, none, .mv (.k (.bool false))⟩]) (.seq (.seq (.ops [⟨some 6, none, .mv (.t 0)⟩, ⟨some 7, none, .lenS (.t 6)⟩, ⟨some 8, none, .mv (.t 1)⟩, ⟨some 9, none, .lenS (.t 8)⟩, ⟨some 10, none, .bin .neq (.t 7) (.t 9)⟩]) (.keep [0, 1, 10] (.cond (.t 10) (.seq (.ops [⟨some 4, none, .mv (.k (.bool false))⟩]) .ret) .skip))) (.keep [0, 1] (.seq (.seq (.ops [⟨some 5, none, .mv (.k (.int .i64 0))⟩]) (.keep [0, 1, 5] (.block 0 (.loop (.seq (.seq (.ops [⟨some 11, none, .mv (.t 5)⟩, ⟨some 12, none, .mv (.t 0)⟩, ⟨some 13, none, .lenS (.t 12)⟩, ⟨some 14, none, .bin .lss (.t 11) (.t 13)⟩]) (.cond (.t 14) .skip (.exit 0))) (.keep [0, 1, 5] (.seq (.block 1 (.seq (.draw [0, 0, 3, 7, 0, 0, 48, 112, 255] [[0], [5], [17, 18], [19], [1], [5], [21, 22], [23], [20, 24]] [⟨some 17, none, .mv (.t 0)⟩, ⟨some 18, none, .mv (.t 5)⟩, ⟨some 19, none, .idxS 1 (.t 17) (.t 18)⟩, ⟨some 20, none, .load false 1 (.t 19)⟩, ⟨some 21, none, .mv (.t 1)⟩, ⟨some 22, none, .mv (.t 5)⟩, ⟨some 23, none, .idxS 1 (.t 21) (.t 22)⟩, ⟨some 24, none, .load false 1 (.t 23)⟩, ⟨some 25, none, .bin .neq (.t 20) (.t 24)⟩]) (.keep [0, 1, 5, 25] (.cond (.t 25) (.seq (.ops [⟨some 4, none, .mv (.k (.bool false))⟩]) .ret) .skip)))) (.keep [0, 1, 5] (.ops [⟨some 15, none, .mv (.t 5)⟩, ⟨some 16, none, .bin .add (.t 15) (.k (.int .i64 1))⟩, ⟨some 5, none, .mv (.t 16)⟩]))))))))) (.keep [] (.seq (.ops [⟨some 4, none, .mv (.k (.bool true))⟩]) .ret)))))) }
structure N145 (R : Env) : Prop where
  o145 : R.Fn 145 c145
def c117 : IFn := { np := 2, rs := [.t 4], body := (.seq (.ops [⟨some 2, none, .box 16 (.t 0)⟩, ⟨some 3, none, .box 16 (.t 1)⟩, ⟨some 4, none, .mv (.k (.bool false))⟩]) (.seq (.ops [⟨some 5, none, .fldA 0 (.t 2)⟩, ⟨some 6, none, .load false 1 (.t 5)⟩, ⟨some 7, none, .fldA 0 (.t 3)⟩, ⟨some 8, none, .load false 1 (.t 7)⟩, ⟨some 9, none, .bin .eql (.t 6) (.t 8)⟩, ⟨some 10, none, .mv (.t 9)⟩, ⟨some 11, some (10, true), .fldA 1 (.t 2)⟩, ⟨some 12, some (10, true), .load false 1 (.t 11)⟩, ⟨some 13, some (10, true), .fldA 1 (.t 3)⟩, ⟨some 14, some (10, true), .load false 1 (.t 13)⟩, ⟨some 15, some (10, true), .bin .eql (.t 12) (.t 14)⟩, ⟨some 16, none, .pick (.t 10) (.t 15) (.k (.bool false))⟩, ⟨some 17, none, .mv (.t 16)⟩, ⟨some 18, some (17, true), .fldA 2 (.t 2)⟩, ⟨some 19, some (17, true), .load false 1 (.t 18)⟩, ⟨some 20, some (17, true), .fldA 2 (.t 3)⟩, ⟨some 21, some (17, true), .load false 1 (.t 20)⟩, ⟨some 22, some (17, true), .call 144 [.t 19, .t 21]⟩, ⟨some 23, none, .pick (.t 17) (.t 22) (.k (.bool false))⟩, ⟨some 24, none, .mv (.t 23)⟩, ⟨some 25, some (24, true), .fldA 5 (.t 2)⟩, ⟨some 26, some (24, true), .load false 1 (.t 25)⟩, ⟨some 27, some (24, true), .fldA 5 (.t 3)⟩, ⟨some 28, some (24, true), .load false 1 (.t 27)⟩, ⟨some 29, some (24, true), .call 144 [.t 26, .t 28]⟩, ⟨some 30, none, .pick (.t 24) (.t 29) (.k (.bool false))⟩, ⟨some 31, none, .mv (.t 30)⟩, ⟨some 32, some (31, true), .fldA 3 (.t 2)⟩, ⟨some 33, some (31, true), .load false 1 (.t 32)⟩, ⟨some 34, some (31, true), .fldA 3 (.t 3)⟩, ⟨some 35, some (31, true), .load false 1 (.t 34)⟩, ⟨some 36, some (31, true), .call 145 [.t 33, .t 35]⟩, ⟨some 37, none, .pick (.t 31) (.t 36) (.k (.bool false))⟩, ⟨some 38, none, .mv (.t 37)⟩, ⟨some 39, some (38, true), .fldA 4 (.t 2)⟩, ⟨some 40, some (38, true), .load false 1 (.t 39)⟩, ⟨some 41, some (38, true), .fldA 4 (.t 3)⟩, ⟨some 42, some (38, true), .load false 1 (.t 41)⟩, ⟨some 43, some (38, true), .call 145 [.t 40, .t 42]⟩, ⟨some 44, none, .pick (.t 38) (.t 43) (.k (.bool false))⟩, ⟨some 45, none, .mv (.t 44)⟩, ⟨some 46, some (45, true), .fldA 6 (.t 2)⟩, ⟨some 47, some (45, true), .load false 1 (.t 46)⟩, ⟨some 48, some (45, true), .fldA 6 (.t 3)⟩, ⟨some 49, some (45, true), .load false 1 (.t 48)⟩, ⟨some 50, some (45, true), .call 145 [.t 47, .t 49]⟩, ⟨some 51, none, .pick (.t 45) (.t 50) (.k (.bool false))⟩, ⟨some 52, none, .mv (.t 51)⟩, ⟨some 53, some (52, true), .fldA 7 (.t 2)⟩, ⟨some 54, some (52, true), .load false 1 (.t 53)⟩, ⟨some 55, some (52, true), .fldA 7 (.t 3)⟩, ⟨some 56, some (52, true), .load false 1 (.t 55)⟩, ⟨some 57, some (52, true), .call 145 [.t 54, .t 56]⟩, ⟨some 58, none, .pick (.t 52) (.t 57) (.k (.bool false))⟩, ⟨some 4, none, .mv (.t 58)⟩]) (.keep [4] .ret))) }
structure N117 (R : Env) : Prop where
  o117 : R.Fn 117 c117
  n144 : N144 R
  n145 : N145 R
end Go.UM

namespace Go.UM
open Go.AM
def c159 : IFn := { np := 1, rs := [.t 2], body := (.seq (.ops [⟨some 2, none, .mv (.k (.nils))⟩]) (.seq (.ops [⟨some 3, none, .mv (.k (.nils))⟩]) (.seq (.seq (.ops [⟨some 4, none, .mv (.k (.int .i64 0))⟩]) (.keep [0, 3, 4] (.block 0 (.loop (.seq (.seq (.ops [⟨some 5, none, .mv (.t 4)⟩, ⟨some 6, none, .mv (.t 0)⟩, ⟨some 7, none, .lenS (.t 6)⟩, ⟨some 8, none, .bin .lss (.t 5) (.t 7)⟩]) (.cond (.t 8) .skip (.exit 0))) (.keep [0, 3, 4] (.seq (.block 1 (.draw [0, 0, 0, 6, 14, 30, 0, 0, 192, 448, 960, 0, 0, 6144, 14336, 30720, 65534, 131071, 262143] [[3], [0], [4], [12, 13], [14], [15], [0], [4], [17, 18], [19], [20], [0], [4], [22, 23], [24], [25], [16, 21, 26], [11, 27], [28]] [⟨some 11, none, .mv (.t 3)⟩, ⟨some 12, none, .mv (.t 0)⟩, ⟨some 13, none, .mv (.t 4)⟩, ⟨some 14, none, .idxS 3 (.t 12) (.t 13)⟩, ⟨some 15, none, .idxA 3 1 (.t 14) (.k (.int .i64 0))⟩, ⟨some 16, none, .load false 1 (.t 15)⟩, ⟨some 17, none, .mv (.t 0)⟩, ⟨some 18, none, .mv (.t 4)⟩, ⟨some 19, none, .idxS 3 (.t 17) (.t 18)⟩, ⟨some 20, none, .idxA 3 1 (.t 19) (.k (.int .i64 1))⟩, ⟨some 21, none, .load false 1 (.t 20)⟩, ⟨some 22, none, .mv (.t 0)⟩, ⟨some 23, none, .mv (.t 4)⟩, ⟨some 24, none, .idxS 3 (.t 22) (.t 23)⟩, ⟨some 25, none, .idxA 3 1 (.t 24) (.k (.int .i64 2))⟩, ⟨some 26, none, .load false 1 (.t 25)⟩, ⟨some 27, none, .bslice 10 1 3 [.int .i64 0] [(0, .t 16), (1, .t 21), (2, .t 26)]⟩, ⟨some 28, none, .app 10 1 (.t 11) (.t 27)⟩, ⟨some 3, none, .mv (.t 28)⟩])) (.keep [0, 3, 4] (.ops [⟨some 9, none, .mv (.t 4)⟩, ⟨some 10, none, .bin .add (.t 9) (.k (.int .i64 1))⟩, ⟨some 4, none, .mv (.t 10)⟩]))))))))) (.keep [3] (.seq (.ops [⟨some 29, none, .mv (.t 3)⟩, ⟨some 2, none, .mv (.t 29)⟩]) .ret))))) }
structure N159 (R : Env) : Prop where
  o159 : R.Fn 159 c159
def c160 : IFn := { np := 0, rs := [.t 0], body := (.seq (.ops [⟨some 0, none, .mv (.k (.nils))⟩]) (.seq (.ops [⟨some 1, none, .bslice 10 1 6 [.int .i64 0] [(0, .k (.int .i64 3)), (1, .k (.int .i64 1)), (2, .k (.int .i64 1)), (3, .k (.int .i64 3)), (4, .k (.int .i64 1)), (5, .k (.int .i64 1))]⟩, ⟨some 0, none, .mv (.t 1)⟩]) .ret)) }
structure N160 (R : Env) : Prop where
  o160 : R.Fn 160 c160
def c161 : IFn := { np := 0, rs := [.t 0], body := (.seq (.ops [⟨some 0, none, .mv (.k (.nils))⟩]) (.seq (.ops [⟨some 1, none, .bslice 23 1 6 [.str []] [(0, .k (.str [66, 69, 65, 85, 84, 89])), (1, .k (.str [65, 76, 80, 72, 65])), (2, .k (.str [68, 69, 80, 84, 72])), (3, .k (.str [78, 79, 82, 77, 65, 76])), (4, .k (.str [65, 83, 83, 69, 84])), (5, .k (.str [76, 65, 66, 69, 76]))]⟩, ⟨some 0, none, .mv (.t 1)⟩]) .ret)) }
structure N161 (R : Env) : Prop where
  o161 : R.Fn 161 c161
def c162 : IFn := { np := 1, rs := [.t 2], body := (.seq (.ops [⟨some 1, none, .box 20 (.t 0)⟩, ⟨some 2, none, .mv (.k (.int .i64 0))⟩]) (.seq (.seq (.ops [⟨some 5, none, .fldA 0 (.t 1)⟩, ⟨some 6, none, .load false 1 (.t 5)⟩, ⟨some 7, none, .bin .lss (.t 6) (.k (.int .i64 1))⟩, ⟨some 8, none, .mv (.t 7)⟩, ⟨some 9, some (8, false), .fldA 0 (.t 1)⟩, ⟨some 10, some (8, false), .load false 1 (.t 9)⟩, ⟨some 11, some (8, false), .bin .gtr (.t 10) (.k (.int .i64 64))⟩, ⟨some 12, none, .pick (.t 8) (.k (.bool true)) (.t 11)⟩, ⟨some 13, none, .mv (.t 12)⟩, ⟨some 14, some (13, false), .fldA 1 (.t 1)⟩, ⟨some 15, some (13, false), .load false 1 (.t 14)⟩, ⟨some 16, some (13, false), .bin .lss (.t 15) (.k (.int .i64 1))⟩, ⟨some 17, none, .pick (.t 13) (.k (.bool true)) (.t 16)⟩, ⟨some 18, none, .mv (.t 17)⟩, ⟨some 19, some (18, false), .fldA 1 (.t 1)⟩, ⟨some 20, some (18, false), .load false 1 (.t 19)⟩, ⟨some 21, some (18, false), .bin .gtr (.t 20) (.k (.int .i64 64))⟩, ⟨some 22, none, .pick (.t 18) (.k (.bool true)) (.t 21)⟩, ⟨some 23, none, .mv (.t 22)⟩, ⟨some 24, some (23, false), .fldA 2 (.t 1)⟩, ⟨some 25, some (23, false), .load false 1 (.t 24)⟩, ⟨some 26, some (23, false), .bin .lss (.t 25) (.k (.int .i64 1))⟩, ⟨some 27, none, .pick (.t 23) (.k (.bool true)) (.t 26)⟩, ⟨some 28, none, .mv (.t 27)⟩, ⟨some 29, some (28, false), .fldA 2 (.t 1)⟩, ⟨some 30, some (28, false), .load false 1 (.t 29)⟩, ⟨some 31, some (28, false), .bin .gtr (.t 30) (.k (.int .i64 4))⟩, ⟨some 32, none, .pick (.t 28) (.k (.bool true)) (.t 31)⟩]) (.keep [1, 32] (.cond (.t 32) (.seq (.ops [⟨some 2, none, .mv (.k (.int .i64 2))⟩]) .ret) .skip))) (.keep [1] (.seq (.seq (.ops [⟨some 33, none, .fldA 3 (.t 1)⟩, ⟨some 34, none, .load false 1 (.t 33)⟩, ⟨some 35, none, .lenT (.t 34)⟩, ⟨some 36, none, .bin .lss (.t 35) (.k (.int .i64 1))⟩, ⟨some 37, none, .mv (.t 36)⟩, ⟨some 38, some (37, false), .fldA 3 (.t 1)⟩, ⟨some 39, some (37, false), .load false 1 (.t 38)⟩, ⟨some 40, some (37, false), .lenT (.t 39)⟩, ⟨some 41, some (37, false), .bin .gtr (.t 40) (.k (.int .i64 16))⟩, ⟨some 42, none, .pick (.t 37) (.k (.bool true)) (.t 41)⟩, ⟨some 43, none, .mv (.t 42)⟩, ⟨some 44, some (43, false), .fldA 4 (.t 1)⟩, ⟨some 45, some (43, false), .load false 1 (.t 44)⟩, ⟨some 46, some (43, false), .lenS (.t 45)⟩, ⟨some 47, some (43, false), .fldA 0 (.t 1)⟩, ⟨some 48, some (43, false), .load false 1 (.t 47)⟩, ⟨some 49, some (43, false), .fldA 1 (.t 1)⟩, ⟨some 50, some (43, false), .load false 1 (.t 49)⟩, ⟨some 51, some (43, false), .bin .mul (.t 48) (.t 50)⟩, ⟨some 52, some (43, false), .fldA 2 (.t 1)⟩, ⟨some 53, some (43, false), .load false 1 (.t 52)⟩, ⟨some 54, some (43, false), .bin .mul (.t 51) (.t 53)⟩, ⟨some 55, some (43, false), .bin .neq (.t 46) (.t 54)⟩, ⟨some 56, none, .pick (.t 43) (.k (.bool true)) (.t 55)⟩]) (.keep [1, 56] (.cond (.t 56) (.seq (.ops [⟨some 2, none, .mv (.k (.int .i64 5))⟩]) .ret) .skip))) (.keep [1] (.seq (.seq (.ops [⟨some 3, none, .mv (.k (.int .i64 0))⟩]) (.keep [1, 3] (.block 0 (.loop (.seq (.seq (.ops [⟨some 57, none, .mv (.t 3)⟩, ⟨some 58, none, .fldA 3 (.t 1)⟩, ⟨some 59, none, .load false 1 (.t 58)⟩, ⟨some 60, none, .lenT (.t 59)⟩, ⟨some 61, none, .bin .lss (.t 57) (.t 60)⟩]) (.keep [1, 3, 61] (.cond (.t 61) .skip (.exit 0)))) (.keep [1, 3] (.seq (.block 1 (.seq (.ops [⟨some 64, none, .fldA 3 (.t 1)⟩, ⟨some 65, none, .load false 1 (.t 64)⟩, ⟨some 66, none, .mv (.t 3)⟩, ⟨some 67, none, .idxT (.t 65) (.t 66)⟩, ⟨some 68, none, .bin .lss (.t 67) (.k (.int .u8 65))⟩, ⟨some 69, none, .mv (.t 68)⟩, ⟨some 70, some (69, false), .fldA 3 (.t 1)⟩, ⟨some 71, some (69, false), .load false 1 (.t 70)⟩, ⟨some 72, some (69, false), .mv (.t 3)⟩, ⟨some 73, some (69, false), .idxT (.t 71) (.t 72)⟩, ⟨some 74, some (69, false), .bin .gtr (.t 73) (.k (.int .u8 90))⟩, ⟨some 75, none, .pick (.t 69) (.k (.bool true)) (.t 74)⟩]) (.keep [1, 3, 75] (.cond (.t 75) (.seq (.ops [⟨some 2, none, .mv (.k (.int .i64 5))⟩]) .ret) .skip)))) (.keep [1, 3] (.ops [⟨some 62, none, .mv (.t 3)⟩, ⟨some 63, none, .bin .add (.t 62) (.k (.int .i64 1))⟩, ⟨some 3, none, .mv (.t 63)⟩]))))))))) (.keep [1] (.seq (.seq (.ops [⟨some 4, none, .mv (.k (.int .i64 0))⟩]) (.keep [1, 4] (.block 2 (.loop (.seq (.seq (.ops [⟨some 76, none, .mv (.t 4)⟩, ⟨some 77, none, .fldA 4 (.t 1)⟩, ⟨some 78, none, .load false 1 (.t 77)⟩, ⟨some 79, none, .lenS (.t 78)⟩, ⟨some 80, none, .bin .lss (.t 76) (.t 79)⟩]) (.keep [1, 4, 80] (.cond (.t 80) .skip (.exit 2)))) (.keep [1, 4] (.seq (.block 3 (.seq (.ops [⟨some 83, none, .fldA 4 (.t 1)⟩, ⟨some 84, none, .load false 1 (.t 83)⟩, ⟨some 85, none, .mv (.t 4)⟩, ⟨some 86, none, .idxS 1 (.t 84) (.t 85)⟩, ⟨some 87, none, .load false 1 (.t 86)⟩, ⟨some 88, none, .bin .lss (.t 87) (.k (.int .i64 0))⟩, ⟨some 89, none, .mv (.t 88)⟩, ⟨some 90, some (89, false), .fldA 4 (.t 1)⟩, ⟨some 91, some (89, false), .load false 1 (.t 90)⟩, ⟨some 92, some (89, false), .mv (.t 4)⟩, ⟨some 93, some (89, false), .idxS 1 (.t 91) (.t 92)⟩, ⟨some 94, some (89, false), .load false 1 (.t 93)⟩, ⟨some 95, some (89, false), .bin .gtr (.t 94) (.k (.int .i64 65535))⟩, ⟨some 96, none, .pick (.t 89) (.k (.bool true)) (.t 95)⟩]) (.keep [1, 4, 96] (.cond (.t 96) (.seq (.ops [⟨some 2, none, .mv (.k (.int .i64 5))⟩]) .ret) .skip)))) (.keep [1, 4] (.ops [⟨some 81, none, .mv (.t 4)⟩, ⟨some 82, none, .bin .add (.t 81) (.k (.int .i64 1))⟩, ⟨some 4, none, .mv (.t 82)⟩]))))))))) (.keep [] (.seq (.ops [⟨some 2, none, .mv (.k (.int .i64 0))⟩]) .ret)))))))))) }
structure N162 (R : Env) : Prop where
  o162 : R.Fn 162 c162
def c155 : IFn := { np := 1, rs := [.t 2, .t 3], body := (.seq (.ops [⟨some 1, none, .box 16 (.t 0)⟩, ⟨some 2, none, .mv (.k (.nils))⟩, ⟨some 3, none, .mv (.k (.int .i64 0))⟩]) (.seq (.draw [0, 1, 3, 0, 8, 0, 32, 0, 128, 391, 0, 1024, 0, 4096, 16383, 32767] [[1], [9], [10], [1], [12], [1], [14], [1], [16], [17], [1], [19], [1], [21], [11, 13, 15, 18, 20, 22], [23]] [⟨some 9, none, .fldA 2 (.t 1)⟩, ⟨some 10, none, .load false 1 (.t 9)⟩, ⟨some 11, none, .call 159 [.t 10]⟩, ⟨some 12, none, .fldA 3 (.t 1)⟩, ⟨some 13, none, .load false 1 (.t 12)⟩, ⟨some 14, none, .fldA 4 (.t 1)⟩, ⟨some 15, none, .load false 1 (.t 14)⟩, ⟨some 16, none, .fldA 5 (.t 1)⟩, ⟨some 17, none, .load false 1 (.t 16)⟩, ⟨some 18, none, .call 159 [.t 17]⟩, ⟨some 19, none, .fldA 6 (.t 1)⟩, ⟨some 20, none, .load false 1 (.t 19)⟩, ⟨some 21, none, .fldA 7 (.t 1)⟩, ⟨some 22, none, .load false 1 (.t 21)⟩, ⟨some 23, none, .bslice 22 1 6 [.nils] [(0, .t 11), (1, .t 13), (2, .t 15), (3, .t 18), (4, .t 20), (5, .t 22)]⟩, ⟨some 4, none, .mv (.t 23)⟩]) (.keep [1, 4] (.seq (.ops [⟨some 5, none, .mv (.k (.nils))⟩]) (.seq (.seq (.ops [⟨some 6, none, .mv (.k (.int .i64 0))⟩]) (.keep [1, 4, 5, 6] (.block 0 (.loop (.seq (.seq (.ops [⟨some 24, none, .mv (.t 6)⟩, ⟨some 25, none, .bin .lss (.t 24) (.k (.int .i64 6))⟩]) (.cond (.t 25) .skip (.exit 0))) (.keep [1, 4, 5, 6] (.seq (.block 1 (.seq (.draw [0, 1, 0, 4, 0, 0, 48, 112, 16, 0, 784, 1808, 0, 0, 12288, 28672, 65535, 0, 262143] [[1], [28], [1], [30], [], [6], [32, 33], [34], [], [6], [36, 37], [38], [4], [6], [40, 41], [42], [29, 31, 35, 39, 43], [], [7, 44]] [⟨some 28, none, .fldA 0 (.t 1)⟩, ⟨some 29, none, .load false 1 (.t 28)⟩, ⟨some 30, none, .fldA 1 (.t 1)⟩, ⟨some 31, none, .load false 1 (.t 30)⟩, ⟨some 32, none, .call 160 []⟩, ⟨some 33, none, .mv (.t 6)⟩, ⟨some 34, none, .idxS 1 (.t 32) (.t 33)⟩, ⟨some 35, none, .load false 1 (.t 34)⟩, ⟨some 36, none, .call 161 []⟩, ⟨some 37, none, .mv (.t 6)⟩, ⟨some 38, none, .idxS 1 (.t 36) (.t 37)⟩, ⟨some 39, none, .load false 1 (.t 38)⟩, ⟨some 40, none, .mv (.t 4)⟩, ⟨some 41, none, .mv (.t 6)⟩, ⟨some 42, none, .idxS 1 (.t 40) (.t 41)⟩, ⟨some 43, none, .load false 1 (.t 42)⟩, ⟨some 44, none, .build [.int .i64 0, .int .i64 0, .int .i64 0, .str [], .nils] [(0, 1, .t 29), (1, 1, .t 31), (2, 1, .t 35), (3, 1, .t 39), (4, 1, .t 43)]⟩, ⟨some 7, none, .alloc 20 [.int .i64 0, .int .i64 0, .int .i64 0, .str [], .nils]⟩, ⟨none, none, .store 5 (.t 7) (.t 44)⟩]) (.keep [1, 4, 5, 6, 7] (.seq (.seq (.ops [⟨some 45, none, .load true 5 (.t 7)⟩, ⟨some 46, none, .call 162 [.t 45]⟩, ⟨some 8, none, .mv (.t 46)⟩]) (.seq (.ops [⟨some 47, none, .mv (.t 8)⟩, ⟨some 48, none, .bin .neq (.t 47) (.k (.int .i64 0))⟩]) (.cond (.t 48) (.seq (.ops [⟨some 49, none, .mv (.t 8)⟩, ⟨some 2, none, .mv (.k (.nils))⟩, ⟨some 3, none, .mv (.t 49)⟩]) .ret) .skip))) (.keep [1, 4, 5, 6, 7] (.ops [⟨some 50, none, .mv (.t 5)⟩, ⟨some 51, none, .load true 5 (.t 7)⟩, ⟨some 52, none, .bslice 20 5 1 [.int .i64 0, .int .i64 0, .int .i64 0, .str [], .nils] [(0, .t 51)]⟩, ⟨some 53, none, .app 20 5 (.t 50) (.t 52)⟩, ⟨some 5, none, .mv (.t 53)⟩])))))) (.keep [1, 4, 5, 6] (.ops [⟨some 26, none, .mv (.t 6)⟩, ⟨some 27, none, .bin .add (.t 26) (.k (.int .i64 1))⟩, ⟨some 6, none, .mv (.t 27)⟩]))))))))) (.keep [5] (.seq (.ops [⟨some 54, none, .mv (.t 5)⟩, ⟨some 2, none, .mv (.t 54)⟩, ⟨some 3, none, .mv (.k (.int .i64 0))⟩]) .ret))))))) }
structure N155 (R : Env) : Prop where
  o155 : R.Fn 155 c155
  n159 : N159 R
  n160 : N160 R
  n161 : N161 R
  n162 : N162 R
def c175 : IFn := { np := 2, rs := [.t 4], body := (.seq (.ops [⟨some 2, none, .box 20 (.t 0)⟩, ⟨some 3, none, .box 20 (.t 1)⟩, ⟨some 4, none, .mv (.k (.bool false))⟩]) (.seq (.ops [⟨some 5, none, .fldA 0 (.t 2)⟩, ⟨some 6, none, .load false 1 (.t 5)⟩, ⟨some 7, none, .fldA 0 (.t 3)⟩, ⟨some 8, none, .load false 1 (.t 7)⟩, ⟨some 9, none, .bin .eql (.t 6) (.t 8)⟩, ⟨some 10, none, .mv (.t 9)⟩, ⟨some 11, some (10, true), .fldA 1 (.t 2)⟩, ⟨some 12, some (10, true), .load false 1 (.t 11)⟩, ⟨some 13, some (10, true), .fldA 1 (.t 3)⟩, ⟨some 14, some (10, true), .load false 1 (.t 13)⟩, ⟨some 15, some (10, true), .bin .eql (.t 12) (.t 14)⟩, ⟨some 16, none, .pick (.t 10) (.t 15) (.k (.bool false))⟩, ⟨some 17, none, .mv (.t 16)⟩, ⟨some 18, some (17, true), .fldA 2 (.t 2)⟩, ⟨some 19, some (17, true), .load false 1 (.t 18)⟩, ⟨some 20, some (17, true), .fldA 2 (.t 3)⟩, ⟨some 21, some (17, true), .load false 1 (.t 20)⟩, ⟨some 22, some (17, true), .bin .eql (.t 19) (.t 21)⟩, ⟨some 23, none, .pick (.t 17) (.t 22) (.k (.bool false))⟩, ⟨some 24, none, .mv (.t 23)⟩, ⟨some 25, some (24, true), .fldA 3 (.t 2)⟩, ⟨some 26, some (24, true), .load false 1 (.t 25)⟩, ⟨some 27, some (24, true), .fldA 3 (.t 3)⟩, ⟨some 28, some (24, true), .load false 1 (.t 27)⟩, ⟨some 29, some (24, true), .bst .eql (.t 26) (.t 28)⟩, ⟨some 30, none, .pick (.t 24) (.t 29) (.k (.bool false))⟩, ⟨some 31, none, .mv (.t 30)⟩, ⟨some 32, some (31, true), .fldA 4 (.t 2)⟩, ⟨some 33, some (31, true), .load false 1 (.t 32)⟩, ⟨some 34, some (31, true), .fldA 4 (.t 3)⟩, ⟨some 35, some (31, true), .load false 1 (.t 34)⟩, ⟨some 36, some (31, true), .call 145 [.t 33, .t 35]⟩, ⟨some 37, none, .pick (.t 31) (.t 36) (.k (.bool false))⟩, ⟨some 4, none, .mv (.t 37)⟩]) (.keep [4] .ret))) }
structure N175 (R : Env) : Prop where
  o175 : R.Fn 175 c175
  n145 : N145 R
def c394 : IFn := { np := 1, rs := [.t 2], body := (.seq (.ops [⟨some 2, none, .mv (.k (.str []))⟩]) (.seq (.ops [⟨some 3, none, .mv (.k (.str [48, 49, 50, 51, 52, 53, 54, 55, 56, 57]))⟩]) (.seq (.seq (.ops [⟨some 4, none, .mv (.t 0)⟩, ⟨some 5, none, .bin .lss (.t 4) (.k (.int .i64 10))⟩]) (.cond (.t 5) (.seq (.ops [⟨some 6, none, .mv (.t 3)⟩, ⟨some 7, none, .mv (.t 0)⟩, ⟨some 8, none, .mv (.t 0)⟩, ⟨some 9, none, .bin .add (.t 8) (.k (.int .i64 1))⟩, ⟨some 10, none, .slcT (.t 6) (some (.t 7)) (some (.t 9))⟩, ⟨some 2, none, .mv (.t 10)⟩]) (.keep [2] .ret)) .skip)) (.keep [0, 3] (.seq (.draw [0, 1, 3, 0, 0, 16, 0, 64, 192, 504, 1023, 2047] [[0], [11], [12], [3], [0], [15], [0], [17], [18], [14, 16, 19], [13, 20], [21]] [⟨some 11, none, .mv (.t 0)⟩, ⟨some 12, none, .bin .quo (.t 11) (.k (.int .i64 10))⟩, ⟨some 13, none, .call 394 [.t 12]⟩, ⟨some 14, none, .mv (.t 3)⟩, ⟨some 15, none, .mv (.t 0)⟩, ⟨some 16, none, .bin .rem (.t 15) (.k (.int .i64 10))⟩, ⟨some 17, none, .mv (.t 0)⟩, ⟨some 18, none, .bin .rem (.t 17) (.k (.int .i64 10))⟩, ⟨some 19, none, .bin .add (.t 18) (.k (.int .i64 1))⟩, ⟨some 20, none, .slcT (.t 14) (some (.t 16)) (some (.t 19))⟩, ⟨some 21, none, .bst .add (.t 13) (.t 20)⟩, ⟨some 2, none, .mv (.t 21)⟩]) (.keep [2] .ret)))))) }
structure N394 (R : Env) : Prop where
  o394 : R.Fn 394 c394
def c382 : IFn := { np := 1, rs := [.t 2], body := (.seq (.ops [⟨some 1, none, .box 20 (.t 0)⟩, ⟨some 2, none, .mv (.k (.str []))⟩]) (.seq (.draw [0, 1, 3, 7, 15, 0, 32, 103, 255, 511, 0, 1024, 3303, 8191, 16383, 0, 32768, 131071, 262143, 524287] [[1], [3], [4], [5], [6], [1], [8], [9], [7, 10], [11], [1], [13], [14], [12, 15], [16], [1], [18], [17, 19], [20], [21]] [⟨some 3, none, .fldA 0 (.t 1)⟩, ⟨some 4, none, .load false 1 (.t 3)⟩, ⟨some 5, none, .call 394 [.t 4]⟩, ⟨some 6, none, .bst .add (.k (.str [80, 55, 10, 87, 73, 68, 84, 72, 32])) (.t 5)⟩, ⟨some 7, none, .bst .add (.t 6) (.k (.str [10, 72, 69, 73, 71, 72, 84, 32]))⟩, ⟨some 8, none, .fldA 1 (.t 1)⟩, ⟨some 9, none, .load false 1 (.t 8)⟩, ⟨some 10, none, .call 394 [.t 9]⟩, ⟨some 11, none, .bst .add (.t 7) (.t 10)⟩, ⟨some 12, none, .bst .add (.t 11) (.k (.str [10, 68, 69, 80, 84, 72, 32]))⟩, ⟨some 13, none, .fldA 2 (.t 1)⟩, ⟨some 14, none, .load false 1 (.t 13)⟩, ⟨some 15, none, .call 394 [.t 14]⟩, ⟨some 16, none, .bst .add (.t 12) (.t 15)⟩, ⟨some 17, none, .bst .add (.t 16) (.k (.str [10, 77, 65, 88, 86, 65, 76, 32, 54, 53, 53, 51, 53, 10, 84, 85, 80, 76, 84, 89, 80, 69, 32]))⟩, ⟨some 18, none, .fldA 3 (.t 1)⟩, ⟨some 19, none, .load false 1 (.t 18)⟩, ⟨some 20, none, .bst .add (.t 17) (.t 19)⟩, ⟨some 21, none, .bst .add (.t 20) (.k (.str [10, 69, 78, 68, 72, 68, 82, 10]))⟩, ⟨some 2, none, .mv (.t 21)⟩]) (.keep [2] .ret))) }
structure N382 (R : Env) : Prop where
  o382 : R.Fn 382 c382
  n394 : N394 R
def c366 : IFn := { np := 1, rs := [.t 2, .t 3], body := (.seq (.ops [⟨some 1, none, .box 20 (.t 0)⟩, ⟨some 2, none, .mv (.k (.nils))⟩, ⟨some 3, none, .mv (.k (.int .i64 0))⟩]) (.seq (.seq (.ops [⟨some 7, none, .load true 5 (.t 1)⟩, ⟨some 8, none, .call 162 [.t 7]⟩, ⟨some 4, none, .mv (.t 8)⟩]) (.seq (.ops [⟨some 9, none, .mv (.t 4)⟩, ⟨some 10, none, .bin .neq (.t 9) (.k (.int .i64 0))⟩]) (.cond (.t 10) (.seq (.ops [⟨some 11, none, .mv (.t 4)⟩, ⟨some 2, none, .mv (.k (.nils))⟩, ⟨some 3, none, .mv (.t 11)⟩]) .ret) .skip))) (.keep [1] (.seq (.ops [⟨some 12, none, .load true 5 (.t 1)⟩, ⟨some 13, none, .call 382 [.t 12]⟩, ⟨some 14, none, .s2b 4 (.t 13)⟩, ⟨some 5, none, .mv (.t 14)⟩]) (.seq (.seq (.ops [⟨some 6, none, .mv (.k (.int .i64 0))⟩]) (.keep [1, 5, 6] (.block 0 (.loop (.seq (.seq (.ops [⟨some 15, none, .mv (.t 6)⟩, ⟨some 16, none, .fldA 4 (.t 1)⟩, ⟨some 17, none, .load false 1 (.t 16)⟩, ⟨some 18, none, .lenS (.t 17)⟩, ⟨some 19, none, .bin .lss (.t 15) (.t 18)⟩]) (.keep [1, 5, 6, 19] (.cond (.t 19) .skip (.exit 0)))) (.keep [1, 5, 6] (.seq (.block 1 (.draw [0, 0, 2, 0, 14, 30, 62, 126, 0, 256, 0, 1792, 3840, 7936, 16128, 32766, 65535, 131071] [[5], [1], [23], [6], [24, 25], [26], [27], [28], [1], [30], [6], [31, 32], [33], [34], [35], [29, 36], [22, 37], [38]] [⟨some 22, none, .mv (.t 5)⟩, ⟨some 23, none, .fldA 4 (.t 1)⟩, ⟨some 24, none, .load false 1 (.t 23)⟩, ⟨some 25, none, .mv (.t 6)⟩, ⟨some 26, none, .idxS 1 (.t 24) (.t 25)⟩, ⟨some 27, none, .load false 1 (.t 26)⟩, ⟨some 28, none, .bin .quo (.t 27) (.k (.int .i64 256))⟩, ⟨some 29, none, .conv .u8 (.t 28)⟩, ⟨some 30, none, .fldA 4 (.t 1)⟩, ⟨some 31, none, .load false 1 (.t 30)⟩, ⟨some 32, none, .mv (.t 6)⟩, ⟨some 33, none, .idxS 1 (.t 31) (.t 32)⟩, ⟨some 34, none, .load false 1 (.t 33)⟩, ⟨some 35, none, .bin .rem (.t 34) (.k (.int .i64 256))⟩, ⟨some 36, none, .conv .u8 (.t 35)⟩, ⟨some 37, none, .bslice 4 1 2 [.int .u8 0] [(0, .t 29), (1, .t 36)]⟩, ⟨some 38, none, .app 4 1 (.t 22) (.t 37)⟩, ⟨some 5, none, .mv (.t 38)⟩])) (.keep [1, 5, 6] (.ops [⟨some 20, none, .mv (.t 6)⟩, ⟨some 21, none, .bin .add (.t 20) (.k (.int .i64 1))⟩, ⟨some 6, none, .mv (.t 21)⟩]))))))))) (.keep [5] (.seq (.ops [⟨some 39, none, .mv (.t 5)⟩, ⟨some 2, none, .mv (.t 39)⟩, ⟨some 3, none, .mv (.k (.int .i64 0))⟩]) .ret))))))) }
structure N366 (R : Env) : Prop where
  o366 : R.Fn 366 c366
  n162 : N162 R
  n382 : N382 R
def c385 : IFn := { np := 1, rs := [.t 2], body := (.seq (.ops [⟨some 2, none, .mv (.k (.nils))⟩]) (.seq (.ops [⟨some 3, none, .mv (.k (.nils))⟩]) (.seq (.seq (.ops [⟨some 4, none, .mv (.k (.int .i64 0))⟩]) (.keep [0, 3, 4] (.block 0 (.loop (.seq (.seq (.ops [⟨some 5, none, .mv (.t 4)⟩, ⟨some 6, none, .bin .add (.t 5) (.k (.int .i64 2))⟩, ⟨some 7, none, .mv (.t 0)⟩, ⟨some 8, none, .lenS (.t 7)⟩, ⟨some 9, none, .bin .lss (.t 6) (.t 8)⟩]) (.keep [0, 3, 4, 9] (.cond (.t 9) .skip (.exit 0)))) (.keep [0, 3, 4] (.seq (.block 1 (.draw [0, 0, 0, 6, 14, 0, 0, 64, 224, 480, 0, 0, 2048, 7168, 15360, 32766, 65534, 131071, 262143] [[3], [0], [4], [13, 14], [15], [0], [4], [18], [17, 19], [20], [0], [4], [23], [22, 24], [25], [16, 21, 26], [27], [12, 28], [29]] [⟨some 12, none, .mv (.t 3)⟩, ⟨some 13, none, .mv (.t 0)⟩, ⟨some 14, none, .mv (.t 4)⟩, ⟨some 15, none, .idxS 1 (.t 13) (.t 14)⟩, ⟨some 16, none, .load false 1 (.t 15)⟩, ⟨some 17, none, .mv (.t 0)⟩, ⟨some 18, none, .mv (.t 4)⟩, ⟨some 19, none, .bin .add (.t 18) (.k (.int .i64 1))⟩, ⟨some 20, none, .idxS 1 (.t 17) (.t 19)⟩, ⟨some 21, none, .load false 1 (.t 20)⟩, ⟨some 22, none, .mv (.t 0)⟩, ⟨some 23, none, .mv (.t 4)⟩, ⟨some 24, none, .bin .add (.t 23) (.k (.int .i64 2))⟩, ⟨some 25, none, .idxS 1 (.t 22) (.t 24)⟩, ⟨some 26, none, .load false 1 (.t 25)⟩, ⟨some 27, none, .build [.int .i64 0, .int .i64 0, .int .i64 0] [(0, 1, .t 16), (1, 1, .t 21), (2, 1, .t 26)]⟩, ⟨some 28, none, .bslice 13 3 1 [.int .i64 0, .int .i64 0, .int .i64 0] [(0, .t 27)]⟩, ⟨some 29, none, .app 13 3 (.t 12) (.t 28)⟩, ⟨some 3, none, .mv (.t 29)⟩])) (.keep [0, 3, 4] (.ops [⟨some 10, none, .mv (.t 4)⟩, ⟨some 11, none, .bin .add (.t 10) (.k (.int .i64 3))⟩, ⟨some 4, none, .mv (.t 11)⟩]))))))))) (.keep [3] (.seq (.ops [⟨some 30, none, .mv (.t 3)⟩, ⟨some 2, none, .mv (.t 30)⟩]) .ret))))) }
structure N385 (R : Env) : Prop where
  o385 : R.Fn 385 c385
def c370 : IFn := { np := 1, rs := [.cell 2 true 8, .t 3], body := (.seq (.ops [⟨some 2, none, .alloc 16 [.int .i64 0, .int .i64 0, .nils, .nils, .nils, .nils, .nils, .nils]⟩, ⟨some 3, none, .mv (.k (.int .i64 0))⟩]) (.seq (.seq (.ops [⟨some 7, none, .mv (.t 0)⟩, ⟨some 8, none, .lenS (.t 7)⟩, ⟨some 9, none, .bin .neq (.t 8) (.k (.int .i64 6))⟩]) (.cond (.t 9) (.seq (.ops [⟨some 10, none, .build [.int .i64 0, .int .i64 0, .nils, .nils, .nils, .nils, .nils, .nils] []⟩, ⟨none, none, .store 8 (.t 2) (.t 10)⟩, ⟨some 3, none, .mv (.k (.int .i64 5))⟩]) .ret) .skip)) (.keep [0, 2] (.seq (.seq (.ops [⟨some 4, none, .mv (.k (.int .i64 0))⟩]) (.keep [0, 2, 4] (.block 0 (.loop (.seq (.seq (.ops [⟨some 11, none, .mv (.t 4)⟩, ⟨some 12, none, .bin .lss (.t 11) (.k (.int .i64 6))⟩]) (.cond (.t 12) .skip (.exit 0))) (.keep [0, 2, 4] (.seq (.block 1 (.seq (.draw [0, 0, 3, 7, 15, 0, 0, 96, 224, 511, 1023, 2047, 2047, 8191, 16383, 32767, 2047, 2047, 198655, 460799, 1048575, 2097151, 4194303, 8388607, 8388607, 33554431, 67108863, 134217727, 8388607, 276824063, 813694975, 1887436799, 4294967295, 8589934591, 17179869183, 34359738367, 34359738367, 137438953471, 274877906943, 549755813887, 34359738367, 1133871366143, 3332894621695, 7730941132799, 17592186044415, 35184372088831] [[0], [4], [15, 16], [17], [18], [], [4], [20, 21], [22], [19, 23], [24], [0], [4], [26, 27], [28], [29], [], [4], [31, 32], [33], [30, 34], [25, 35], [36], [0], [4], [38, 39], [40], [41], [0], [43], [44], [45], [42, 46], [37, 47], [48], [0], [4], [50, 51], [52], [53], [0], [55], [56], [57], [54, 58], [49, 59]] [⟨some 15, none, .mv (.t 0)⟩, ⟨some 16, none, .mv (.t 4)⟩, ⟨some 17, none, .idxS 5 (.t 15) (.t 16)⟩, ⟨some 18, none, .fldA 3 (.t 17)⟩, ⟨some 19, none, .load false 1 (.t 18)⟩, ⟨some 20, none, .call 161 []⟩, ⟨some 21, none, .mv (.t 4)⟩, ⟨some 22, none, .idxS 1 (.t 20) (.t 21)⟩, ⟨some 23, none, .load false 1 (.t 22)⟩, ⟨some 24, none, .bst .neq (.t 19) (.t 23)⟩, ⟨some 25, none, .mv (.t 24)⟩, ⟨some 26, some (25, false), .mv (.t 0)⟩, ⟨some 27, some (25, false), .mv (.t 4)⟩, ⟨some 28, some (25, false), .idxS 5 (.t 26) (.t 27)⟩, ⟨some 29, some (25, false), .fldA 2 (.t 28)⟩, ⟨some 30, some (25, false), .load false 1 (.t 29)⟩, ⟨some 31, some (25, false), .call 160 []⟩, ⟨some 32, some (25, false), .mv (.t 4)⟩, ⟨some 33, some (25, false), .idxS 1 (.t 31) (.t 32)⟩, ⟨some 34, some (25, false), .load false 1 (.t 33)⟩, ⟨some 35, some (25, false), .bin .neq (.t 30) (.t 34)⟩, ⟨some 36, none, .pick (.t 25) (.k (.bool true)) (.t 35)⟩, ⟨some 37, none, .mv (.t 36)⟩, ⟨some 38, some (37, false), .mv (.t 0)⟩, ⟨some 39, some (37, false), .mv (.t 4)⟩, ⟨some 40, some (37, false), .idxS 5 (.t 38) (.t 39)⟩, ⟨some 41, some (37, false), .fldA 0 (.t 40)⟩, ⟨some 42, some (37, false), .load false 1 (.t 41)⟩, ⟨some 43, some (37, false), .mv (.t 0)⟩, ⟨some 44, some (37, false), .idxS 5 (.t 43) (.k (.int .i64 0))⟩, ⟨some 45, some (37, false), .fldA 0 (.t 44)⟩, ⟨some 46, some (37, false), .load false 1 (.t 45)⟩, ⟨some 47, some (37, false), .bin .neq (.t 42) (.t 46)⟩, ⟨some 48, none, .pick (.t 37) (.k (.bool true)) (.t 47)⟩, ⟨some 49, none, .mv (.t 48)⟩, ⟨some 50, some (49, false), .mv (.t 0)⟩, ⟨some 51, some (49, false), .mv (.t 4)⟩, ⟨some 52, some (49, false), .idxS 5 (.t 50) (.t 51)⟩, ⟨some 53, some (49, false), .fldA 1 (.t 52)⟩, ⟨some 54, some (49, false), .load false 1 (.t 53)⟩, ⟨some 55, some (49, false), .mv (.t 0)⟩, ⟨some 56, some (49, false), .idxS 5 (.t 55) (.k (.int .i64 0))⟩, ⟨some 57, some (49, false), .fldA 1 (.t 56)⟩, ⟨some 58, some (49, false), .load false 1 (.t 57)⟩, ⟨some 59, some (49, false), .bin .neq (.t 54) (.t 58)⟩, ⟨some 60, none, .pick (.t 49) (.k (.bool true)) (.t 59)⟩]) (.keep [0, 2, 4, 60] (.cond (.t 60) (.seq (.ops [⟨some 61, none, .build [.int .i64 0, .int .i64 0, .nils, .nils, .nils, .nils, .nils, .nils] []⟩, ⟨none, none, .store 8 (.t 2) (.t 61)⟩, ⟨some 3, none, .mv (.k (.int .i64 5))⟩]) .ret) .skip)))) (.keep [0, 2, 4] (.ops [⟨some 13, none, .mv (.t 4)⟩, ⟨some 14, none, .bin .add (.t 13) (.k (.int .i64 1))⟩, ⟨some 4, none, .mv (.t 14)⟩]))))))))) (.keep [0, 2] (.seq (.seq (.ops [⟨some 5, none, .mv (.k (.int .i64 0))⟩]) (.keep [0, 2, 5] (.block 2 (.loop (.seq (.seq (.ops [⟨some 62, none, .mv (.t 5)⟩, ⟨some 63, none, .bin .lss (.t 62) (.k (.int .i64 6))⟩]) (.cond (.t 63) .skip (.exit 2))) (.keep [0, 2, 5] (.seq (.block 3 (.seq (.ops [⟨some 66, none, .mv (.t 0)⟩, ⟨some 67, none, .mv (.t 5)⟩, ⟨some 68, none, .idxS 5 (.t 66) (.t 67)⟩, ⟨some 69, none, .load true 5 (.t 68)⟩, ⟨some 70, none, .call 162 [.t 69]⟩, ⟨some 6, none, .mv (.t 70)⟩]) (.keep [0, 2, 5, 6] (.seq (.ops [⟨some 71, none, .mv (.t 6)⟩, ⟨some 72, none, .bin .neq (.t 71) (.k (.int .i64 0))⟩]) (.cond (.t 72) (.seq (.ops [⟨some 73, none, .build [.int .i64 0, .int .i64 0, .nils, .nils, .nils, .nils, .nils, .nils] []⟩, ⟨some 74, none, .mv (.t 6)⟩, ⟨none, none, .store 8 (.t 2) (.t 73)⟩, ⟨some 3, none, .mv (.t 74)⟩]) .ret) .skip))))) (.keep [0, 2, 5] (.ops [⟨some 64, none, .mv (.t 5)⟩, ⟨some 65, none, .bin .add (.t 64) (.k (.int .i64 1))⟩, ⟨some 5, none, .mv (.t 65)⟩]))))))))) (.keep [0, 2] (.seq (.draw [0, 1, 3, 7, 0, 16, 48, 112, 0, 256, 768, 1792, 3840, 0, 8192, 24576, 57344, 0, 131072, 393216, 917504, 0, 2097152, 6291456, 14680064, 31465216, 0, 67108864, 201326592, 469762048, 0, 1073741824, 3221225472, 7516192768, 17179869183, 34359738367, 68719476735] [[0], [75], [76], [77], [0], [79], [80], [81], [0], [83], [84], [85], [86], [0], [88], [89], [90], [0], [92], [93], [94], [0], [96], [97], [98], [99], [0], [101], [102], [103], [0], [105], [106], [107], [78, 82, 87, 91, 95, 100, 104, 108], [2, 109], []] [⟨some 75, none, .mv (.t 0)⟩, ⟨some 76, none, .idxS 5 (.t 75) (.k (.int .i64 0))⟩, ⟨some 77, none, .fldA 0 (.t 76)⟩, ⟨some 78, none, .load false 1 (.t 77)⟩, ⟨some 79, none, .mv (.t 0)⟩, ⟨some 80, none, .idxS 5 (.t 79) (.k (.int .i64 0))⟩, ⟨some 81, none, .fldA 1 (.t 80)⟩, ⟨some 82, none, .load false 1 (.t 81)⟩, ⟨some 83, none, .mv (.t 0)⟩, ⟨some 84, none, .idxS 5 (.t 83) (.k (.int .i64 0))⟩, ⟨some 85, none, .fldA 4 (.t 84)⟩, ⟨some 86, none, .load false 1 (.t 85)⟩, ⟨some 87, none, .call 385 [.t 86]⟩, ⟨some 88, none, .mv (.t 0)⟩, ⟨some 89, none, .idxS 5 (.t 88) (.k (.int .i64 1))⟩, ⟨some 90, none, .fldA 4 (.t 89)⟩, ⟨some 91, none, .load false 1 (.t 90)⟩, ⟨some 92, none, .mv (.t 0)⟩, ⟨some 93, none, .idxS 5 (.t 92) (.k (.int .i64 2))⟩, ⟨some 94, none, .fldA 4 (.t 93)⟩, ⟨some 95, none, .load false 1 (.t 94)⟩, ⟨some 96, none, .mv (.t 0)⟩, ⟨some 97, none, .idxS 5 (.t 96) (.k (.int .i64 3))⟩, ⟨some 98, none, .fldA 4 (.t 97)⟩, ⟨some 99, none, .load false 1 (.t 98)⟩, ⟨some 100, none, .call 385 [.t 99]⟩, ⟨some 101, none, .mv (.t 0)⟩, ⟨some 102, none, .idxS 5 (.t 101) (.k (.int .i64 4))⟩, ⟨some 103, none, .fldA 4 (.t 102)⟩, ⟨some 104, none, .load false 1 (.t 103)⟩, ⟨some 105, none, .mv (.t 0)⟩, ⟨some 106, none, .idxS 5 (.t 105) (.k (.int .i64 5))⟩, ⟨some 107, none, .fldA 4 (.t 106)⟩, ⟨some 108, none, .load false 1 (.t 107)⟩, ⟨some 109, none, .build [.int .i64 0, .int .i64 0, .nils, .nils, .nils, .nils, .nils, .nils] [(0, 1, .t 78), (1, 1, .t 82), (2, 1, .t 87), (3, 1, .t 91), (4, 1, .t 95), (5, 1, .t 100), (6, 1, .t 104), (7, 1, .t 108)]⟩, ⟨none, none, .store 8 (.t 2) (.t 109)⟩, ⟨some 3, none, .mv (.k (.int .i64 0))⟩]) (.keep [2, 3] .ret))))))))) }
structure N370 (R : Env) : Prop where
  o370 : R.Fn 370 c370
  n160 : N160 R
  n161 : N161 R
  n162 : N162 R
  n385 : N385 R
def c391 : IFn := { np := 3, rs := [.t 6, .t 7], body := (.seq (.ops [⟨some 6, none, .mv (.k (.str []))⟩, ⟨some 7, none, .mv (.k (.int .i64 0))⟩]) (.seq (.seq (.ops [⟨some 9, none, .mv (.t 1)⟩, ⟨some 10, none, .bin .lss (.t 9) (.k (.int .i64 0))⟩, ⟨some 11, none, .mv (.t 10)⟩, ⟨some 12, some (11, false), .mv (.t 0)⟩, ⟨some 13, some (11, false), .lenT (.t 12)⟩, ⟨some 14, some (11, false), .mv (.t 1)⟩, ⟨some 15, some (11, false), .bin .sub (.t 13) (.t 14)⟩, ⟨some 16, some (11, false), .mv (.t 2)⟩, ⟨some 17, some (11, false), .lenT (.t 16)⟩, ⟨some 18, some (11, false), .bin .lss (.t 15) (.t 17)⟩, ⟨some 19, none, .pick (.t 11) (.k (.bool true)) (.t 18)⟩, ⟨some 20, none, .mv (.t 19)⟩, ⟨some 21, some (20, false), .mv (.t 0)⟩, ⟨some 22, some (20, false), .mv (.t 1)⟩, ⟨some 23, some (20, false), .mv (.t 1)⟩, ⟨some 24, some (20, false), .mv (.t 2)⟩, ⟨some 25, some (20, false), .lenT (.t 24)⟩, ⟨some 26, some (20, false), .bin .add (.t 23) (.t 25)⟩, ⟨some 27, some (20, false), .slcT (.t 21) (some (.t 22)) (some (.t 26))⟩, ⟨some 28, some (20, false), .mv (.t 2)⟩, ⟨some 29, some (20, false), .bst .neq (.t 27) (.t 28)⟩, ⟨some 30, none, .pick (.t 20) (.k (.bool true)) (.t 29)⟩]) (.keep [0, 1, 2, 30] (.cond (.t 30) (.seq (.ops [⟨some 6, none, .mv (.k (.str []))⟩, ⟨some 7, none, .mv (.k (.int .i64 (-1)))⟩]) .ret) .skip))) (.keep [0, 1, 2] (.seq (.ops [⟨some 31, none, .mv (.t 1)⟩, ⟨some 32, none, .mv (.t 2)⟩, ⟨some 33, none, .lenT (.t 32)⟩, ⟨some 34, none, .bin .add (.t 31) (.t 33)⟩, ⟨some 1, none, .mv (.t 34)⟩]) (.keep [0, 1] (.seq (.seq (.ops [⟨some 35, none, .mv (.t 1)⟩, ⟨some 8, none, .mv (.t 35)⟩]) (.keep [0, 1, 8] (.block 0 (.loop (.seq (.seq (.ops [⟨some 36, none, .mv (.t 8)⟩, ⟨some 37, none, .mv (.t 0)⟩, ⟨some 38, none, .lenT (.t 37)⟩, ⟨some 39, none, .bin .lss (.t 36) (.t 38)⟩]) (.cond (.t 39) .skip (.exit 0))) (.keep [0, 1, 8] (.seq (.block 1 (.seq (.ops [⟨some 42, none, .mv (.t 0)⟩, ⟨some 43, none, .mv (.t 8)⟩, ⟨some 44, none, .idxT (.t 42) (.t 43)⟩, ⟨some 45, none, .bin .eql (.t 44) (.k (.int .u8 10))⟩]) (.cond (.t 45) (.seq (.ops [⟨some 46, none, .mv (.t 0)⟩, ⟨some 47, none, .mv (.t 1)⟩, ⟨some 48, none, .mv (.t 8)⟩, ⟨some 49, none, .slcT (.t 46) (some (.t 47)) (some (.t 48))⟩, ⟨some 50, none, .mv (.t 8)⟩, ⟨some 51, none, .bin .add (.t 50) (.k (.int .i64 1))⟩, ⟨some 6, none, .mv (.t 49)⟩, ⟨some 7, none, .mv (.t 51)⟩]) (.keep [6, 7] .ret)) .skip))) (.keep [0, 1, 8] (.ops [⟨some 40, none, .mv (.t 8)⟩, ⟨some 41, none, .bin .add (.t 40) (.k (.int .i64 1))⟩, ⟨some 8, none, .mv (.t 41)⟩]))))))))) (.keep [] (.seq (.ops [⟨some 6, none, .mv (.k (.str []))⟩, ⟨some 7, none, .mv (.k (.int .i64 (-1)))⟩]) .ret)))))))) }
structure N391 (R : Env) : Prop where
  o391 : R.Fn 391 c391
def c392 : IFn := { np := 1, rs := [.t 2], body := (.seq (.ops [⟨some 2, none, .mv (.k (.int .i64 0))⟩]) (.seq (.seq (.ops [⟨some 3, none, .mv (.k (.int .i64 1))⟩]) (.keep [0, 3] (.block 0 (.loop (.seq (.seq (.ops [⟨some 4, none, .mv (.t 3)⟩, ⟨some 5, none, .bin .leq (.t 4) (.k (.int .i64 64))⟩]) (.cond (.t 5) .skip (.exit 0))) (.keep [0, 3] (.seq (.block 1 (.seq (.ops [⟨some 8, none, .mv (.t 3)⟩, ⟨some 9, none, .call 394 [.t 8]⟩, ⟨some 10, none, .mv (.t 0)⟩, ⟨some 11, none, .bst .eql (.t 9) (.t 10)⟩]) (.cond (.t 11) (.seq (.ops [⟨some 12, none, .mv (.t 3)⟩, ⟨some 2, none, .mv (.t 12)⟩]) .ret) .skip))) (.keep [0, 3] (.ops [⟨some 6, none, .mv (.t 3)⟩, ⟨some 7, none, .bin .add (.t 6) (.k (.int .i64 1))⟩, ⟨some 3, none, .mv (.t 7)⟩]))))))))) (.keep [] (.seq (.ops [⟨some 2, none, .mv (.k (.int .i64 0))⟩]) .ret)))) }
structure N392 (R : Env) : Prop where
  o392 : R.Fn 392 c392
  n394 : N394 R
def c373 : IFn := { np := 1, rs := [.cell 2 true 5, .t 3, .t 4], body := (.seq (.ops [⟨some 2, none, .alloc 20 [.int .i64 0, .int .i64 0, .int .i64 0, .str [], .nils]⟩, ⟨some 3, none, .mv (.k (.nils))⟩, ⟨some 4, none, .mv (.k (.int .i64 0))⟩]) (.seq (.ops [⟨some 18, none, .mv (.t 0)⟩, ⟨some 19, none, .b2s (.t 18)⟩, ⟨some 5, none, .mv (.t 19)⟩]) (.seq (.ops [⟨some 21, none, .mv (.t 5)⟩, ⟨some 22, none, .call 391 [.t 21, .k (.int .i64 0), .k (.str [80, 55])]⟩, ⟨some 20, none, .mv (.t 22)⟩, ⟨some 23, none, .ext (.t 20) 0⟩, ⟨some 24, none, .ext (.t 20) 1⟩, ⟨some 6, none, .mv (.t 23)⟩, ⟨some 7, none, .mv (.t 24)⟩]) (.keep [0, 2, 5, 6, 7] (.seq (.ops [⟨some 26, none, .mv (.t 5)⟩, ⟨some 27, none, .mv (.t 7)⟩, ⟨some 28, none, .call 391 [.t 26, .t 27, .k (.str [87, 73, 68, 84, 72, 32])]⟩, ⟨some 25, none, .mv (.t 28)⟩, ⟨some 29, none, .ext (.t 25) 0⟩, ⟨some 30, none, .ext (.t 25) 1⟩, ⟨some 8, none, .mv (.t 29)⟩, ⟨some 7, none, .mv (.t 30)⟩]) (.keep [0, 2, 5, 6, 7, 8] (.seq (.ops [⟨some 32, none, .mv (.t 5)⟩, ⟨some 33, none, .mv (.t 7)⟩, ⟨some 34, none, .call 391 [.t 32, .t 33, .k (.str [72, 69, 73, 71, 72, 84, 32])]⟩, ⟨some 31, none, .mv (.t 34)⟩, ⟨some 35, none, .ext (.t 31) 0⟩, ⟨some 36, none, .ext (.t 31) 1⟩, ⟨some 9, none, .mv (.t 35)⟩, ⟨some 7, none, .mv (.t 36)⟩]) (.keep [0, 2, 5, 6, 7, 8, 9] (.seq (.ops [⟨some 38, none, .mv (.t 5)⟩, ⟨some 39, none, .mv (.t 7)⟩, ⟨some 40, none, .call 391 [.t 38, .t 39, .k (.str [68, 69, 80, 84, 72, 32])]⟩, ⟨some 37, none, .mv (.t 40)⟩, ⟨some 41, none, .ext (.t 37) 0⟩, ⟨some 42, none, .ext (.t 37) 1⟩, ⟨some 10, none, .mv (.t 41)⟩, ⟨some 7, none, .mv (.t 42)⟩]) (.keep [0, 2, 5, 6, 7, 8, 9, 10] (.seq (.ops [⟨some 44, none, .mv (.t 5)⟩, ⟨some 45, none, .mv (.t 7)⟩, ⟨some 46, none, .call 391 [.t 44, .t 45, .k (.str [77, 65, 88, 86, 65, 76, 32, 54, 53, 53, 51, 53])]⟩, ⟨some 43, none, .mv (.t 46)⟩, ⟨some 47, none, .ext (.t 43) 0⟩, ⟨some 48, none, .ext (.t 43) 1⟩, ⟨some 11, none, .mv (.t 47)⟩, ⟨some 7, none, .mv (.t 48)⟩]) (.keep [0, 2, 5, 6, 7, 8, 9, 10, 11] (.seq (.ops [⟨some 50, none, .mv (.t 5)⟩, ⟨some 51, none, .mv (.t 7)⟩, ⟨some 52, none, .call 391 [.t 50, .t 51, .k (.str [84, 85, 80, 76, 84, 89, 80, 69, 32])]⟩, ⟨some 49, none, .mv (.t 52)⟩, ⟨some 53, none, .ext (.t 49) 0⟩, ⟨some 54, none, .ext (.t 49) 1⟩, ⟨some 12, none, .mv (.t 53)⟩, ⟨some 7, none, .mv (.t 54)⟩]) (.keep [0, 2, 5, 6, 7, 8, 9, 10, 11, 12] (.seq (.ops [⟨some 56, none, .mv (.t 5)⟩, ⟨some 57, none, .mv (.t 7)⟩, ⟨some 58, none, .call 391 [.t 56, .t 57, .k (.str [69, 78, 68, 72, 68, 82])]⟩, ⟨some 55, none, .mv (.t 58)⟩, ⟨some 59, none, .ext (.t 55) 0⟩, ⟨some 60, none, .ext (.t 55) 1⟩, ⟨some 13, none, .mv (.t 59)⟩, ⟨some 7, none, .mv (.t 60)⟩]) (.keep [0, 2, 6, 7, 8, 9, 10, 11, 12, 13] (.seq (.ops [⟨some 61, none, .mv (.t 8)⟩, ⟨some 62, none, .call 392 [.t 61]⟩, ⟨some 63, none, .mv (.t 9)⟩, ⟨some 64, none, .call 392 [.t 63]⟩, ⟨some 65, none, .mv (.t 10)⟩, ⟨some 66, none, .call 392 [.t 65]⟩, ⟨some 67, none, .mv (.t 12)⟩, ⟨some 68, none, .build [.int .i64 0, .int .i64 0, .int .i64 0, .str [], .nils] [(0, 1, .t 62), (1, 1, .t 64), (2, 1, .t 66), (3, 1, .t 67)]⟩, ⟨some 14, none, .alloc 20 [.int .i64 0, .int .i64 0, .int .i64 0, .str [], .nils]⟩, ⟨none, none, .store 5 (.t 14) (.t 68)⟩]) (.keep [0, 2, 6, 7, 11, 13, 14] (.seq (.seq (.ops [⟨some 69, none, .mv (.t 7)⟩, ⟨some 70, none, .bin .lss (.t 69) (.k (.int .i64 0))⟩, ⟨some 71, none, .mv (.t 70)⟩, ⟨some 72, some (71, false), .mv (.t 6)⟩, ⟨some 73, some (71, false), .bst .neq (.t 72) (.k (.str []))⟩, ⟨some 74, none, .pick (.t 71) (.k (.bool true)) (.t 73)⟩, ⟨some 75, none, .mv (.t 74)⟩, ⟨some 76, some (75, false), .mv (.t 11)⟩, ⟨some 77, some (75, false), .bst .neq (.t 76) (.k (.str []))⟩, ⟨some 78, none, .pick (.t 75) (.k (.bool true)) (.t 77)⟩, ⟨some 79, none, .mv (.t 78)⟩, ⟨some 80, some (79, false), .mv (.t 13)⟩, ⟨some 81, some (79, false), .bst .neq (.t 80) (.k (.str []))⟩, ⟨some 82, none, .pick (.t 79) (.k (.bool true)) (.t 81)⟩, ⟨some 83, none, .mv (.t 82)⟩, ⟨some 84, some (83, false), .fldA 0 (.t 14)⟩, ⟨some 85, some (83, false), .load false 1 (.t 84)⟩, ⟨some 86, some (83, false), .bin .eql (.t 85) (.k (.int .i64 0))⟩, ⟨some 87, none, .pick (.t 83) (.k (.bool true)) (.t 86)⟩, ⟨some 88, none, .mv (.t 87)⟩, ⟨some 89, some (88, false), .fldA 1 (.t 14)⟩, ⟨some 90, some (88, false), .load false 1 (.t 89)⟩, ⟨some 91, some (88, false), .bin .eql (.t 90) (.k (.int .i64 0))⟩, ⟨some 92, none, .pick (.t 88) (.k (.bool true)) (.t 91)⟩, ⟨some 93, none, .mv (.t 92)⟩, ⟨some 94, some (93, false), .fldA 2 (.t 14)⟩, ⟨some 95, some (93, false), .load false 1 (.t 94)⟩, ⟨some 96, some (93, false), .bin .eql (.t 95) (.k (.int .i64 0))⟩, ⟨some 97, none, .pick (.t 93) (.k (.bool true)) (.t 96)⟩, ⟨some 98, none, .mv (.t 97)⟩, ⟨some 99, some (98, false), .fldA 2 (.t 14)⟩, ⟨some 100, some (98, false), .load false 1 (.t 99)⟩, ⟨some 101, some (98, false), .bin .gtr (.t 100) (.k (.int .i64 4))⟩, ⟨some 102, none, .pick (.t 98) (.k (.bool true)) (.t 101)⟩]) (.keep [0, 2, 7, 14, 102] (.cond (.t 102) (.seq (.ops [⟨some 103, none, .build [.int .i64 0, .int .i64 0, .int .i64 0, .str [], .nils] []⟩, ⟨none, none, .store 5 (.t 2) (.t 103)⟩, ⟨some 3, none, .mv (.k (.nils))⟩, ⟨some 4, none, .mv (.k (.int .i64 5))⟩]) .ret) .skip))) (.keep [0, 2, 7, 14] (.seq (.ops [⟨some 104, none, .fldA 0 (.t 14)⟩, ⟨some 105, none, .load false 1 (.t 104)⟩, ⟨some 106, none, .fldA 1 (.t 14)⟩, ⟨some 107, none, .load false 1 (.t 106)⟩, ⟨some 108, none, .bin .mul (.t 105) (.t 107)⟩, ⟨some 109, none, .fldA 2 (.t 14)⟩, ⟨some 110, none, .load false 1 (.t 109)⟩, ⟨some 111, none, .bin .mul (.t 108) (.t 110)⟩, ⟨some 15, none, .mv (.t 111)⟩]) (.keep [0, 2, 7, 14, 15] (.seq (.ops [⟨some 112, none, .load true 5 (.t 14)⟩, ⟨some 16, none, .alloc 20 [.int .i64 0, .int .i64 0, .int .i64 0, .str [], .nils]⟩, ⟨none, none, .store 5 (.t 16) (.t 112)⟩]) (.seq (.ops [⟨some 113, none, .mv (.t 15)⟩, ⟨some 114, none, .mks 10 1 [.int .i64 0] (.t 113) (.t 113)⟩, ⟨some 115, none, .fldA 4 (.t 16)⟩, ⟨none, none, .store 1 (.t 115) (.t 114)⟩]) (.seq (.seq (.ops [⟨some 116, none, .load true 5 (.t 16)⟩, ⟨some 117, none, .call 162 [.t 116]⟩, ⟨some 118, none, .bin .neq (.t 117) (.k (.int .i64 0))⟩]) (.cond (.t 118) (.seq (.ops [⟨some 119, none, .build [.int .i64 0, .int .i64 0, .int .i64 0, .str [], .nils] []⟩, ⟨none, none, .store 5 (.t 2) (.t 119)⟩, ⟨some 3, none, .mv (.k (.nils))⟩, ⟨some 4, none, .mv (.k (.int .i64 5))⟩]) .ret) .skip)) (.keep [0, 2, 7, 14, 15] (.seq (.seq (.ops [⟨some 120, none, .mv (.t 0)⟩, ⟨some 121, none, .lenS (.t 120)⟩, ⟨some 122, none, .mv (.t 7)⟩, ⟨some 123, none, .bin .sub (.t 121) (.t 122)⟩, ⟨some 124, none, .mv (.t 15)⟩, ⟨some 125, none, .bin .mul (.k (.int .i64 2)) (.t 124)⟩, ⟨some 126, none, .bin .lss (.t 123) (.t 125)⟩]) (.keep [0, 2, 7, 14, 15, 126] (.cond (.t 126) (.seq (.ops [⟨some 127, none, .build [.int .i64 0, .int .i64 0, .int .i64 0, .str [], .nils] []⟩, ⟨none, none, .store 5 (.t 2) (.t 127)⟩, ⟨some 3, none, .mv (.k (.nils))⟩, ⟨some 4, none, .mv (.k (.int .i64 4))⟩]) .ret) .skip))) (.keep [0, 2, 7, 14, 15] (.seq (.seq (.ops [⟨some 17, none, .mv (.k (.int .i64 0))⟩]) (.keep [0, 2, 7, 14, 15, 17] (.block 0 (.loop (.seq (.seq (.ops [⟨some 128, none, .mv (.t 17)⟩, ⟨some 129, none, .mv (.t 15)⟩, ⟨some 130, none, .bin .lss (.t 128) (.t 129)⟩]) (.cond (.t 130) .skip (.exit 0))) (.keep [0, 2, 7, 14, 15, 17] (.seq (.block 1 (.draw [0, 1, 0, 0, 0, 16, 56, 124, 252, 508, 1020, 0, 0, 0, 8192, 28672, 61440, 129024, 260096, 522240, 1048572, 2097148, 4194303, 8388607, 16777215] [[14], [133], [0], [7], [17], [137], [136, 138], [135, 139], [140], [141], [142], [0], [7], [17], [146], [145, 147], [148], [144, 149], [150], [151], [143, 152], [153], [134, 154], [14], [156, 155]] [⟨some 133, none, .fldA 4 (.t 14)⟩, ⟨some 134, none, .load false 1 (.t 133)⟩, ⟨some 135, none, .mv (.t 0)⟩, ⟨some 136, none, .mv (.t 7)⟩, ⟨some 137, none, .mv (.t 17)⟩, ⟨some 138, none, .bin .mul (.k (.int .i64 2)) (.t 137)⟩, ⟨some 139, none, .bin .add (.t 136) (.t 138)⟩, ⟨some 140, none, .idxS 1 (.t 135) (.t 139)⟩, ⟨some 141, none, .load false 1 (.t 140)⟩, ⟨some 142, none, .conv .i64 (.t 141)⟩, ⟨some 143, none, .bin .mul (.t 142) (.k (.int .i64 256))⟩, ⟨some 144, none, .mv (.t 0)⟩, ⟨some 145, none, .mv (.t 7)⟩, ⟨some 146, none, .mv (.t 17)⟩, ⟨some 147, none, .bin .mul (.k (.int .i64 2)) (.t 146)⟩, ⟨some 148, none, .bin .add (.t 145) (.t 147)⟩, ⟨some 149, none, .bin .add (.t 148) (.k (.int .i64 1))⟩, ⟨some 150, none, .idxS 1 (.t 144) (.t 149)⟩, ⟨some 151, none, .load false 1 (.t 150)⟩, ⟨some 152, none, .conv .i64 (.t 151)⟩, ⟨some 153, none, .bin .add (.t 143) (.t 152)⟩, ⟨some 154, none, .bslice 10 1 1 [.int .i64 0] [(0, .t 153)]⟩, ⟨some 155, none, .app 10 1 (.t 134) (.t 154)⟩, ⟨some 156, none, .fldA 4 (.t 14)⟩, ⟨none, none, .store 1 (.t 156) (.t 155)⟩])) (.keep [0, 2, 7, 14, 15, 17] (.ops [⟨some 131, none, .mv (.t 17)⟩, ⟨some 132, none, .bin .add (.t 131) (.k (.int .i64 1))⟩, ⟨some 17, none, .mv (.t 132)⟩]))))))))) (.keep [0, 2, 7, 14, 15] (.seq (.draw [0, 0, 0, 0, 8, 28, 62, 1, 255, 511] [[14], [0], [7], [15], [160], [159, 161], [158, 162], [2, 157], [163], []] [⟨some 157, none, .load true 5 (.t 14)⟩, ⟨some 158, none, .mv (.t 0)⟩, ⟨some 159, none, .mv (.t 7)⟩, ⟨some 160, none, .mv (.t 15)⟩, ⟨some 161, none, .bin .mul (.k (.int .i64 2)) (.t 160)⟩, ⟨some 162, none, .bin .add (.t 159) (.t 161)⟩, ⟨some 163, none, .slcS 4 1 (.t 158) (some (.t 162)) none none⟩, ⟨none, none, .store 5 (.t 2) (.t 157)⟩, ⟨some 3, none, .mv (.t 163)⟩, ⟨some 4, none, .mv (.k (.int .i64 0))⟩]) (.keep [2, 3, 4] .ret)))))))))))))))))))))))))))))))) }
structure N373 (R : Env) : Prop where
  o373 : R.Fn 373 c373
  n162 : N162 R
  n391 : N391 R
  n392 : N392 R
def c377 : IFn := { np := 1, rs := [.t 2, .t 3], body := (.seq (.ops [⟨some 1, none, .box 16 (.t 0)⟩, ⟨some 2, none, .mv (.k (.nils))⟩, ⟨some 3, none, .mv (.k (.int .i64 0))⟩]) (.seq (.ops [⟨some 11, none, .load true 8 (.t 1)⟩, ⟨some 12, none, .call 155 [.t 11]⟩, ⟨some 10, none, .mv (.t 12)⟩, ⟨some 13, none, .ext (.t 10) 0⟩, ⟨some 14, none, .ext (.t 10) 1⟩, ⟨some 4, none, .mv (.t 13)⟩, ⟨some 5, none, .mv (.t 14)⟩]) (.keep [4, 5] (.seq (.seq (.ops [⟨some 15, none, .mv (.t 5)⟩, ⟨some 16, none, .bin .neq (.t 15) (.k (.int .i64 0))⟩]) (.cond (.t 16) (.seq (.ops [⟨some 17, none, .mv (.t 5)⟩, ⟨some 2, none, .mv (.k (.nils))⟩, ⟨some 3, none, .mv (.t 17)⟩]) .ret) .skip)) (.keep [4] (.seq (.ops [⟨some 6, none, .mv (.k (.nils))⟩]) (.seq (.seq (.ops [⟨some 7, none, .mv (.k (.int .i64 0))⟩]) (.keep [4, 6, 7] (.block 0 (.loop (.seq (.seq (.ops [⟨some 18, none, .mv (.t 7)⟩, ⟨some 19, none, .bin .lss (.t 18) (.k (.int .i64 6))⟩]) (.cond (.t 19) .skip (.exit 0))) (.keep [4, 6, 7] (.seq (.block 1 (.seq (.ops [⟨some 23, none, .mv (.t 4)⟩, ⟨some 24, none, .mv (.t 7)⟩, ⟨some 25, none, .idxS 5 (.t 23) (.t 24)⟩, ⟨some 26, none, .load true 5 (.t 25)⟩, ⟨some 27, none, .call 366 [.t 26]⟩, ⟨some 22, none, .mv (.t 27)⟩, ⟨some 28, none, .ext (.t 22) 0⟩, ⟨some 29, none, .ext (.t 22) 1⟩, ⟨some 8, none, .mv (.t 28)⟩, ⟨some 9, none, .mv (.t 29)⟩]) (.keep [4, 6, 7, 8] (.ops [⟨some 30, none, .mv (.t 6)⟩, ⟨some 31, none, .mv (.t 8)⟩, ⟨some 32, none, .app 4 1 (.t 30) (.t 31)⟩, ⟨some 6, none, .mv (.t 32)⟩])))) (.keep [4, 6, 7] (.ops [⟨some 20, none, .mv (.t 7)⟩, ⟨some 21, none, .bin .add (.t 20) (.k (.int .i64 1))⟩, ⟨some 7, none, .mv (.t 21)⟩]))))))))) (.keep [6] (.seq (.ops [⟨some 33, none, .mv (.t 6)⟩, ⟨some 2, none, .mv (.t 33)⟩, ⟨some 3, none, .mv (.k (.int .i64 0))⟩]) .ret))))))))) }
structure N377 (R : Env) : Prop where
  o377 : R.Fn 377 c377
  n155 : N155 R
  n366 : N366 R
def c379 : IFn := { np := 1, rs := [.cell 2 true 8, .t 3], body := (.seq (.ops [⟨some 2, none, .alloc 16 [.int .i64 0, .int .i64 0, .nils, .nils, .nils, .nils, .nils, .nils]⟩, ⟨some 3, none, .mv (.k (.int .i64 0))⟩]) (.seq (.ops [⟨some 4, none, .mv (.k (.nils))⟩]) (.seq (.seq (.ops [⟨some 5, none, .mv (.k (.int .i64 0))⟩]) (.keep [0, 2, 4, 5] (.block 0 (.loop (.seq (.seq (.ops [⟨some 9, none, .mv (.t 5)⟩, ⟨some 10, none, .bin .lss (.t 9) (.k (.int .i64 6))⟩]) (.cond (.t 10) .skip (.exit 0))) (.keep [0, 2, 4, 5] (.seq (.block 1 (.seq (.ops [⟨some 14, none, .mv (.t 0)⟩, ⟨some 15, none, .call 373 [.t 14]⟩, ⟨some 13, none, .mv (.t 15)⟩, ⟨some 16, none, .ext (.t 13) 0⟩, ⟨some 17, none, .ext (.t 13) 1⟩, ⟨some 18, none, .ext (.t 13) 2⟩, ⟨some 6, none, .alloc 20 [.int .i64 0, .int .i64 0, .int .i64 0, .str [], .nils]⟩, ⟨none, none, .store 5 (.t 6) (.t 16)⟩, ⟨some 7, none, .mv (.t 17)⟩, ⟨some 8, none, .mv (.t 18)⟩]) (.keep [2, 4, 5, 6, 7, 8] (.seq (.seq (.ops [⟨some 19, none, .mv (.t 8)⟩, ⟨some 20, none, .bin .neq (.t 19) (.k (.int .i64 0))⟩]) (.cond (.t 20) (.seq (.ops [⟨some 21, none, .build [.int .i64 0, .int .i64 0, .nils, .nils, .nils, .nils, .nils, .nils] []⟩, ⟨some 22, none, .mv (.t 8)⟩, ⟨none, none, .store 8 (.t 2) (.t 21)⟩, ⟨some 3, none, .mv (.t 22)⟩]) .ret) .skip)) (.keep [2, 4, 5, 6, 7] (.seq (.ops [⟨some 23, none, .mv (.t 4)⟩, ⟨some 24, none, .load true 5 (.t 6)⟩, ⟨some 25, none, .bslice 20 5 1 [.int .i64 0, .int .i64 0, .int .i64 0, .str [], .nils] [(0, .t 24)]⟩, ⟨some 26, none, .app 20 5 (.t 23) (.t 25)⟩, ⟨some 4, none, .mv (.t 26)⟩]) (.keep [2, 4, 5, 7] (.ops [⟨some 27, none, .mv (.t 7)⟩, ⟨some 0, none, .mv (.t 27)⟩])))))))) (.keep [0, 2, 4, 5] (.ops [⟨some 11, none, .mv (.t 5)⟩, ⟨some 12, none, .bin .add (.t 11) (.k (.int .i64 1))⟩, ⟨some 5, none, .mv (.t 12)⟩]))))))))) (.keep [0, 2, 4] (.seq (.seq (.ops [⟨some 28, none, .mv (.t 0)⟩, ⟨some 29, none, .lenS (.t 28)⟩, ⟨some 30, none, .bin .gtr (.t 29) (.k (.int .i64 0))⟩]) (.cond (.t 30) (.seq (.ops [⟨some 31, none, .build [.int .i64 0, .int .i64 0, .nils, .nils, .nils, .nils, .nils, .nils] []⟩, ⟨none, none, .store 8 (.t 2) (.t 31)⟩, ⟨some 3, none, .mv (.k (.int .i64 5))⟩]) .ret) .skip)) (.keep [2, 4] (.seq (.ops [⟨some 32, none, .mv (.t 4)⟩, ⟨some 33, none, .call 370 [.t 32]⟩, ⟨some 34, none, .ext (.t 33) 0⟩, ⟨some 35, none, .ext (.t 33) 1⟩, ⟨none, none, .store 8 (.t 2) (.t 34)⟩, ⟨some 3, none, .mv (.t 35)⟩]) (.keep [2, 3] .ret)))))))) }
structure N379 (R : Env) : Prop where
  o379 : R.Fn 379 c379
  n370 : N370 R
  n373 : N373 R
end Go.UM

namespace Go.UM
open Go.AM
def c135 : IFn := { np := 1, rs := [.cell 2 true 8], body := (.seq (.ops [⟨some 1, none, .box 16 (.t 0)⟩, ⟨some 2, none, .alloc 16 [.int .i64 0, .int .i64 0, .nils, .nils, .nils, .nils, .nils, .nils]⟩]) (.seq (.draw [0, 1, 0, 4, 12, 28, 63, 0, 128, 0, 512, 1536, 3584, 8064, 2047, 18431, 65535, 131071] [[1], [3], [1], [5], [6], [7], [4, 8], [1], [10], [1], [12], [13], [14], [11, 15], [1], [17, 9], [1], [18, 16]] [⟨some 3, none, .fldA 2 (.t 1)⟩, ⟨some 4, none, .load false 1 (.t 3)⟩, ⟨some 5, none, .fldA 2 (.t 1)⟩, ⟨some 6, none, .load false 1 (.t 5)⟩, ⟨some 7, none, .lenS (.t 6)⟩, ⟨some 8, none, .mm false [.t 7, .k (.int .i64 20)]⟩, ⟨some 9, none, .slcS 13 3 (.t 4) none (some (.t 8)) none⟩, ⟨some 10, none, .fldA 5 (.t 1)⟩, ⟨some 11, none, .load false 1 (.t 10)⟩, ⟨some 12, none, .fldA 5 (.t 1)⟩, ⟨some 13, none, .load false 1 (.t 12)⟩, ⟨some 14, none, .lenS (.t 13)⟩, ⟨some 15, none, .mm false [.t 14, .k (.int .i64 20)]⟩, ⟨some 16, none, .slcS 13 3 (.t 11) none (some (.t 15)) none⟩, ⟨some 17, none, .fldA 2 (.t 1)⟩, ⟨none, none, .store 1 (.t 17) (.t 9)⟩, ⟨some 18, none, .fldA 5 (.t 1)⟩, ⟨none, none, .store 1 (.t 18) (.t 16)⟩]) (.keep [1, 2] (.seq (.draw [0, 1, 0, 4, 12, 28, 63, 0, 128, 0, 512, 1536, 3584, 8064, 2047, 18431, 65535, 131071] [[1], [19], [1], [21], [22], [23], [20, 24], [1], [26], [1], [28], [29], [30], [27, 31], [1], [33, 25], [1], [34, 32]] [⟨some 19, none, .fldA 3 (.t 1)⟩, ⟨some 20, none, .load false 1 (.t 19)⟩, ⟨some 21, none, .fldA 3 (.t 1)⟩, ⟨some 22, none, .load false 1 (.t 21)⟩, ⟨some 23, none, .lenS (.t 22)⟩, ⟨some 24, none, .mm false [.t 23, .k (.int .i64 20)]⟩, ⟨some 25, none, .slcS 10 1 (.t 20) none (some (.t 24)) none⟩, ⟨some 26, none, .fldA 4 (.t 1)⟩, ⟨some 27, none, .load false 1 (.t 26)⟩, ⟨some 28, none, .fldA 4 (.t 1)⟩, ⟨some 29, none, .load false 1 (.t 28)⟩, ⟨some 30, none, .lenS (.t 29)⟩, ⟨some 31, none, .mm false [.t 30, .k (.int .i64 20)]⟩, ⟨some 32, none, .slcS 10 1 (.t 27) none (some (.t 31)) none⟩, ⟨some 33, none, .fldA 3 (.t 1)⟩, ⟨none, none, .store 1 (.t 33) (.t 25)⟩, ⟨some 34, none, .fldA 4 (.t 1)⟩, ⟨none, none, .store 1 (.t 34) (.t 32)⟩]) (.keep [1, 2] (.seq (.draw [0, 1, 0, 4, 12, 28, 63, 0, 128, 0, 512, 1536, 3584, 8064, 2047, 18431, 65535, 131071] [[1], [35], [1], [37], [38], [39], [36, 40], [1], [42], [1], [44], [45], [46], [43, 47], [1], [49, 41], [1], [50, 48]] [⟨some 35, none, .fldA 6 (.t 1)⟩, ⟨some 36, none, .load false 1 (.t 35)⟩, ⟨some 37, none, .fldA 6 (.t 1)⟩, ⟨some 38, none, .load false 1 (.t 37)⟩, ⟨some 39, none, .lenS (.t 38)⟩, ⟨some 40, none, .mm false [.t 39, .k (.int .i64 20)]⟩, ⟨some 41, none, .slcS 10 1 (.t 36) none (some (.t 40)) none⟩, ⟨some 42, none, .fldA 7 (.t 1)⟩, ⟨some 43, none, .load false 1 (.t 42)⟩, ⟨some 44, none, .fldA 7 (.t 1)⟩, ⟨some 45, none, .load false 1 (.t 44)⟩, ⟨some 46, none, .lenS (.t 45)⟩, ⟨some 47, none, .mm false [.t 46, .k (.int .i64 20)]⟩, ⟨some 48, none, .slcS 10 1 (.t 43) none (some (.t 47)) none⟩, ⟨some 49, none, .fldA 6 (.t 1)⟩, ⟨none, none, .store 1 (.t 49) (.t 41)⟩, ⟨some 50, none, .fldA 7 (.t 1)⟩, ⟨none, none, .store 1 (.t 50) (.t 48)⟩]) (.keep [1, 2] (.seq (.ops [⟨some 51, none, .load true 8 (.t 1)⟩, ⟨none, none, .store 8 (.t 2) (.t 51)⟩]) .ret)))))))) }
structure N135 (R : Env) : Prop where
  o135 : R.Fn 135 c135
def c364 : IFn := { np := 1, rs := [.cell 2 true 5], body := (.seq (.ops [⟨some 1, none, .box 20 (.t 0)⟩, ⟨some 2, none, .alloc 20 [.int .i64 0, .int .i64 0, .int .i64 0, .str [], .nils]⟩]) (.seq (.draw [0, 1, 0, 4, 12, 28, 63, 0, 128, 0, 512, 1536, 3584, 8064, 2047, 18431, 65535, 131071] [[1], [3], [1], [5], [6], [7], [4, 8], [1], [10], [1], [12], [13], [14], [11, 15], [1], [17, 9], [1], [18, 16]] [⟨some 3, none, .fldA 4 (.t 1)⟩, ⟨some 4, none, .load false 1 (.t 3)⟩, ⟨some 5, none, .fldA 4 (.t 1)⟩, ⟨some 6, none, .load false 1 (.t 5)⟩, ⟨some 7, none, .lenS (.t 6)⟩, ⟨some 8, none, .mm false [.t 7, .k (.int .i64 100)]⟩, ⟨some 9, none, .slcS 10 1 (.t 4) none (some (.t 8)) none⟩, ⟨some 10, none, .fldA 3 (.t 1)⟩, ⟨some 11, none, .load false 1 (.t 10)⟩, ⟨some 12, none, .fldA 3 (.t 1)⟩, ⟨some 13, none, .load false 1 (.t 12)⟩, ⟨some 14, none, .lenT (.t 13)⟩, ⟨some 15, none, .mm false [.t 14, .k (.int .i64 20)]⟩, ⟨some 16, none, .slcT (.t 11) none (some (.t 15))⟩, ⟨some 17, none, .fldA 4 (.t 1)⟩, ⟨none, none, .store 1 (.t 17) (.t 9)⟩, ⟨some 18, none, .fldA 3 (.t 1)⟩, ⟨none, none, .store 1 (.t 18) (.t 16)⟩]) (.keep [1, 2] (.seq (.ops [⟨some 19, none, .load true 5 (.t 1)⟩, ⟨none, none, .store 5 (.t 2) (.t 19)⟩]) .ret)))) }
structure N364 (R : Env) : Prop where
  o364 : R.Fn 364 c364
def c367 : IFn := { np := 0, rs := [.t 0], body := (.seq (.ops [⟨some 0, none, .mv (.k (.bool false))⟩]) (.seq (.ops [⟨some 4, none, .bslice 10 1 1 [.int .i64 0] [(0, .k (.int .i64 258))]⟩, ⟨some 5, none, .build [.int .i64 0, .int .i64 0, .int .i64 0, .str [], .nils] [(0, 1, .k (.int .i64 1)), (1, 1, .k (.int .i64 1)), (2, 1, .k (.int .i64 1)), (3, 1, .k (.str [65])), (4, 1, .t 4)]⟩, ⟨some 6, none, .call 365 [.t 5]⟩, ⟨some 3, none, .mv (.t 6)⟩, ⟨some 7, none, .ext (.t 3) 0⟩, ⟨some 8, none, .ext (.t 3) 1⟩, ⟨some 1, none, .mv (.t 7)⟩, ⟨some 2, none, .mv (.t 8)⟩]) (.keep [1, 2] (.seq (.ops [⟨some 9, none, .mv (.t 2)⟩, ⟨some 10, none, .bin .eql (.t 9) (.k (.int .i64 0))⟩, ⟨some 11, none, .mv (.t 10)⟩, ⟨some 12, some (11, true), .mv (.t 1)⟩, ⟨some 13, some (11, true), .b2s (.t 12)⟩, ⟨some 14, some (11, true), .bst .eql (.t 13) (.k (.str [80, 55, 10, 87, 73, 68, 84, 72, 32, 49, 10, 72, 69, 73, 71, 72, 84, 32, 49, 10, 68, 69, 80, 84, 72, 32, 49, 10, 77, 65, 88, 86, 65, 76, 32, 54, 53, 53, 51, 53, 10, 84, 85, 80, 76, 84, 89, 80, 69, 32, 65, 10, 69, 78, 68, 72, 68, 82, 10, 1, 2]))⟩, ⟨some 15, none, .pick (.t 11) (.t 14) (.k (.bool false))⟩, ⟨some 0, none, .mv (.t 15)⟩]) (.keep [0] .ret))))) }
structure N367 (R : Env) : Prop where
  o367 : R.Fn 367 c367
  n365 : N365 R
def c363 : IFn := { np := 1, rs := [.t 2], body := (.seq (.ops [⟨some 1, none, .box 20 (.t 0)⟩, ⟨some 2, none, .mv (.k (.bool false))⟩]) (.seq (.ops [⟨some 7, none, .load true 5 (.t 1)⟩, ⟨some 8, none, .call 364 [.t 7]⟩, ⟨none, none, .store 5 (.t 1) (.t 8)⟩]) (.seq (.ops [⟨some 10, none, .load true 5 (.t 1)⟩, ⟨some 11, none, .call 365 [.t 10]⟩, ⟨some 9, none, .mv (.t 11)⟩, ⟨some 12, none, .ext (.t 9) 0⟩, ⟨some 13, none, .ext (.t 9) 1⟩, ⟨some 3, none, .mv (.t 12)⟩, ⟨some 4, none, .mv (.t 13)⟩]) (.keep [1, 3, 4] (.seq (.ops [⟨some 15, none, .load true 5 (.t 1)⟩, ⟨some 16, none, .call 366 [.t 15]⟩, ⟨some 14, none, .mv (.t 16)⟩, ⟨some 17, none, .ext (.t 14) 0⟩, ⟨some 18, none, .ext (.t 14) 1⟩, ⟨some 5, none, .mv (.t 17)⟩, ⟨some 6, none, .mv (.t 18)⟩]) (.keep [1, 3, 4, 5, 6] (.seq (.draw [0, 1, 0, 7, 15, 31, 63, 63, 255, 511, 1023, 2047, 2047, 8191, 16383, 32767, 65535, 131071, 262143] [[1], [19], [1], [21], [20, 22], [23], [3], [5], [25, 26], [24, 27], [28], [4], [6], [30, 31], [29, 32], [33], [], [34, 35], [36]] [⟨some 19, none, .load true 5 (.t 1)⟩, ⟨some 20, none, .call 153 [.t 19]⟩, ⟨some 21, none, .load true 5 (.t 1)⟩, ⟨some 22, none, .call 162 [.t 21]⟩, ⟨some 23, none, .bin .eql (.t 20) (.t 22)⟩, ⟨some 24, none, .mv (.t 23)⟩, ⟨some 25, some (24, true), .mv (.t 3)⟩, ⟨some 26, some (24, true), .mv (.t 5)⟩, ⟨some 27, some (24, true), .call 47 [.t 25, .t 26]⟩, ⟨some 28, none, .pick (.t 24) (.t 27) (.k (.bool false))⟩, ⟨some 29, none, .mv (.t 28)⟩, ⟨some 30, some (29, true), .mv (.t 4)⟩, ⟨some 31, some (29, true), .mv (.t 6)⟩, ⟨some 32, some (29, true), .bin .eql (.t 30) (.t 31)⟩, ⟨some 33, none, .pick (.t 29) (.t 32) (.k (.bool false))⟩, ⟨some 34, none, .mv (.t 33)⟩, ⟨some 35, some (34, true), .call 367 []⟩, ⟨some 36, none, .pick (.t 34) (.t 35) (.k (.bool false))⟩, ⟨some 2, none, .mv (.t 36)⟩]) (.keep [2] .ret)))))))) }
structure N363 (R : Env) : Prop where
  o363 : R.Fn 363 c363
  n47 : N47 R
  n153 : N153 R
  n162 : N162 R
  n364 : N364 R
  n365 : N365 R
  n366 : N366 R
  n367 : N367 R
def c368 : IFn := { np := 2, rs := [.t 4], body := (.seq (.ops [⟨some 2, none, .box 16 (.t 0)⟩, ⟨some 4, none, .mv (.k (.bool false))⟩]) (.seq (.ops [⟨some 16, none, .load true 8 (.t 2)⟩, ⟨some 17, none, .call 135 [.t 16]⟩, ⟨none, none, .store 8 (.t 2) (.t 17)⟩]) (.seq (.ops [⟨some 5, none, .mv (.k (.nils))⟩]) (.seq (.seq (.ops [⟨some 6, none, .mv (.k (.int .i64 0))⟩]) (.keep [1, 2, 5, 6] (.block 0 (.loop (.seq (.seq (.ops [⟨some 18, none, .mv (.t 6)⟩, ⟨some 19, none, .mv (.t 1)⟩, ⟨some 20, none, .lenS (.t 19)⟩, ⟨some 21, none, .bin .lss (.t 18) (.t 20)⟩, ⟨some 22, none, .mv (.t 21)⟩, ⟨some 23, some (22, true), .mv (.t 6)⟩, ⟨some 24, some (22, true), .bin .lss (.t 23) (.k (.int .i64 8))⟩, ⟨some 25, none, .pick (.t 22) (.t 24) (.k (.bool false))⟩]) (.keep [1, 2, 5, 6, 25] (.cond (.t 25) .skip (.exit 0)))) (.keep [1, 2, 5, 6] (.seq (.block 1 (.ops [⟨some 28, none, .mv (.t 5)⟩, ⟨some 29, none, .mv (.t 1)⟩, ⟨some 30, none, .mv (.t 6)⟩, ⟨some 31, none, .idxS 5 (.t 29) (.t 30)⟩, ⟨some 32, none, .load true 5 (.t 31)⟩, ⟨some 33, none, .call 364 [.t 32]⟩, ⟨some 34, none, .bslice 20 5 1 [.int .i64 0, .int .i64 0, .int .i64 0, .str [], .nils] [(0, .t 33)]⟩, ⟨some 35, none, .app 20 5 (.t 28) (.t 34)⟩, ⟨some 5, none, .mv (.t 35)⟩])) (.keep [1, 2, 5, 6] (.ops [⟨some 26, none, .mv (.t 6)⟩, ⟨some 27, none, .bin .add (.t 26) (.k (.int .i64 1))⟩, ⟨some 6, none, .mv (.t 27)⟩]))))))))) (.keep [2, 5] (.seq (.ops [⟨some 37, none, .load true 8 (.t 2)⟩, ⟨some 38, none, .call 132 [.t 37]⟩, ⟨some 36, none, .mv (.t 38)⟩, ⟨some 39, none, .ext (.t 36) 0⟩, ⟨some 40, none, .ext (.t 36) 1⟩, ⟨some 7, none, .mv (.t 39)⟩, ⟨some 8, none, .mv (.t 40)⟩]) (.keep [2, 5, 7, 8] (.seq (.ops [⟨some 42, none, .load true 8 (.t 2)⟩, ⟨some 43, none, .call 155 [.t 42]⟩, ⟨some 41, none, .mv (.t 43)⟩, ⟨some 44, none, .ext (.t 41) 0⟩, ⟨some 45, none, .ext (.t 41) 1⟩, ⟨some 9, none, .mv (.t 44)⟩, ⟨some 10, none, .mv (.t 45)⟩]) (.keep [5, 7, 8, 9, 10] (.seq (.seq (.ops [⟨some 46, none, .mv (.t 7)⟩, ⟨some 47, none, .lenS (.t 46)⟩, ⟨some 48, none, .mv (.t 9)⟩, ⟨some 49, none, .lenS (.t 48)⟩, ⟨some 50, none, .bin .neq (.t 47) (.t 49)⟩, ⟨some 51, none, .mv (.t 50)⟩, ⟨some 52, some (51, false), .mv (.t 8)⟩, ⟨some 53, some (51, false), .mv (.t 10)⟩, ⟨some 54, some (51, false), .bin .neq (.t 52) (.t 53)⟩, ⟨some 55, none, .pick (.t 51) (.k (.bool true)) (.t 54)⟩]) (.keep [5, 7, 9, 55] (.cond (.t 55) (.seq (.ops [⟨some 4, none, .mv (.k (.bool false))⟩]) .ret) .skip))) (.keep [5, 7, 9] (.seq (.seq (.ops [⟨some 56, none, .mv (.t 7)⟩, ⟨some 57, none, .lenS (.t 56)⟩, ⟨some 58, none, .mv (.k (.int .i64 0))⟩]) (.keep [5, 7, 9, 57, 58] (.block 2 (.loop (.seq (.ops [⟨some 59, none, .bin .lss (.t 58) (.t 57)⟩]) (.seq (.cond (.t 59) .skip (.exit 2)) (.keep [5, 7, 9, 57, 58] (.seq (.block 3 (.seq (.ops [⟨some 60, none, .mv (.t 58)⟩, ⟨some 11, none, .mv (.t 60)⟩]) (.seq (.draw [0, 0, 3, 7, 0, 0, 48, 112, 255, 511] [[7], [11], [61, 62], [63], [9], [11], [65, 66], [67], [64, 68], [69]] [⟨some 61, none, .mv (.t 7)⟩, ⟨some 62, none, .mv (.t 11)⟩, ⟨some 63, none, .idxS 5 (.t 61) (.t 62)⟩, ⟨some 64, none, .load true 5 (.t 63)⟩, ⟨some 65, none, .mv (.t 9)⟩, ⟨some 66, none, .mv (.t 11)⟩, ⟨some 67, none, .idxS 5 (.t 65) (.t 66)⟩, ⟨some 68, none, .load true 5 (.t 67)⟩, ⟨some 69, none, .call 175 [.t 64, .t 68]⟩, ⟨some 70, none, .un .not (.t 69)⟩]) (.keep [5, 7, 9, 57, 58, 70] (.cond (.t 70) (.seq (.ops [⟨some 4, none, .mv (.k (.bool false))⟩]) .ret) .skip))))) (.keep [5, 7, 9, 57, 58] (.ops [⟨some 71, none, .bin .add (.t 58) (.k (.int .i64 1))⟩, ⟨some 58, none, .mv (.t 71)⟩])))))))))) (.keep [5] (.seq (.ops [⟨some 73, none, .mv (.t 5)⟩, ⟨some 74, none, .call 369 [.t 73]⟩, ⟨some 72, none, .mv (.t 74)⟩, ⟨some 75, none, .ext (.t 72) 0⟩, ⟨some 76, none, .ext (.t 72) 1⟩, ⟨some 12, none, .alloc 16 [.int .i64 0, .int .i64 0, .nils, .nils, .nils, .nils, .nils, .nils]⟩, ⟨none, none, .store 8 (.t 12) (.t 75)⟩, ⟨some 13, none, .mv (.t 76)⟩]) (.keep [5, 12, 13] (.seq (.ops [⟨some 78, none, .mv (.t 5)⟩, ⟨some 79, none, .call 370 [.t 78]⟩, ⟨some 77, none, .mv (.t 79)⟩, ⟨some 80, none, .ext (.t 77) 0⟩, ⟨some 81, none, .ext (.t 77) 1⟩, ⟨some 14, none, .alloc 16 [.int .i64 0, .int .i64 0, .nils, .nils, .nils, .nils, .nils, .nils]⟩, ⟨none, none, .store 8 (.t 14) (.t 80)⟩, ⟨some 15, none, .mv (.t 81)⟩]) (.keep [12, 13, 14, 15] (.seq (.ops [⟨some 82, none, .load true 8 (.t 12)⟩, ⟨some 83, none, .load true 8 (.t 14)⟩, ⟨some 84, none, .call 117 [.t 82, .t 83]⟩, ⟨some 85, none, .mv (.t 84)⟩, ⟨some 86, some (85, true), .mv (.t 13)⟩, ⟨some 87, some (85, true), .mv (.t 15)⟩, ⟨some 88, some (85, true), .bin .eql (.t 86) (.t 87)⟩, ⟨some 89, none, .pick (.t 85) (.t 88) (.k (.bool false))⟩, ⟨some 90, none, .mv (.t 89)⟩, ⟨some 91, some (90, true), .call 367 []⟩, ⟨some 92, none, .pick (.t 90) (.t 91) (.k (.bool false))⟩, ⟨some 4, none, .mv (.t 92)⟩]) (.keep [4] .ret))))))))))))))))))) }
structure N368 (R : Env) : Prop where
  o368 : R.Fn 368 c368
  n117 : N117 R
  n132 : N132 R
  n135 : N135 R
  n155 : N155 R
  n175 : N175 R
  n364 : N364 R
  n367 : N367 R
  n369 : N369 R
  n370 : N370 R
def c371 : IFn := { np := 1, rs := [.t 2], body := (.seq (.ops [⟨some 2, none, .mv (.k (.bool false))⟩]) (.seq (.ops [⟨some 9, none, .mv (.t 0)⟩, ⟨some 10, none, .mv (.t 0)⟩, ⟨some 11, none, .lenS (.t 10)⟩, ⟨some 12, none, .mm false [.t 11, .k (.int .i64 1500)]⟩, ⟨some 13, none, .slcS 4 1 (.t 9) none (some (.t 12)) none⟩, ⟨some 0, none, .mv (.t 13)⟩]) (.keep [0] (.seq (.ops [⟨some 15, none, .mv (.t 0)⟩, ⟨some 16, none, .call 372 [.t 15]⟩, ⟨some 14, none, .mv (.t 16)⟩, ⟨some 17, none, .ext (.t 14) 0⟩, ⟨some 18, none, .ext (.t 14) 1⟩, ⟨some 19, none, .ext (.t 14) 2⟩, ⟨some 3, none, .alloc 20 [.int .i64 0, .int .i64 0, .int .i64 0, .str [], .nils]⟩, ⟨none, none, .store 5 (.t 3) (.t 17)⟩, ⟨some 4, none, .mv (.t 18)⟩, ⟨some 5, none, .mv (.t 19)⟩]) (.keep [0, 3, 4, 5] (.seq (.ops [⟨some 21, none, .mv (.t 0)⟩, ⟨some 22, none, .call 373 [.t 21]⟩, ⟨some 20, none, .mv (.t 22)⟩, ⟨some 23, none, .ext (.t 20) 0⟩, ⟨some 24, none, .ext (.t 20) 1⟩, ⟨some 25, none, .ext (.t 20) 2⟩, ⟨some 6, none, .alloc 20 [.int .i64 0, .int .i64 0, .int .i64 0, .str [], .nils]⟩, ⟨none, none, .store 5 (.t 6) (.t 23)⟩, ⟨some 7, none, .mv (.t 24)⟩, ⟨some 8, none, .mv (.t 25)⟩]) (.keep [3, 4, 5, 6, 7, 8] (.seq (.ops [⟨some 26, none, .load true 5 (.t 3)⟩, ⟨some 27, none, .load true 5 (.t 6)⟩, ⟨some 28, none, .call 175 [.t 26, .t 27]⟩, ⟨some 29, none, .mv (.t 28)⟩, ⟨some 30, some (29, true), .mv (.t 4)⟩, ⟨some 31, some (29, true), .mv (.t 7)⟩, ⟨some 32, some (29, true), .call 47 [.t 30, .t 31]⟩, ⟨some 33, none, .pick (.t 29) (.t 32) (.k (.bool false))⟩, ⟨some 34, none, .mv (.t 33)⟩, ⟨some 35, some (34, true), .mv (.t 5)⟩, ⟨some 36, some (34, true), .mv (.t 8)⟩, ⟨some 37, some (34, true), .bin .eql (.t 35) (.t 36)⟩, ⟨some 38, none, .pick (.t 34) (.t 37) (.k (.bool false))⟩, ⟨some 39, none, .mv (.t 38)⟩, ⟨some 40, some (39, true), .call 367 []⟩, ⟨some 41, none, .pick (.t 39) (.t 40) (.k (.bool false))⟩, ⟨some 2, none, .mv (.t 41)⟩]) (.keep [2] .ret))))))))) }
structure N371 (R : Env) : Prop where
  o371 : R.Fn 371 c371
  n47 : N47 R
  n175 : N175 R
  n367 : N367 R
  n372 : N372 R
  n373 : N373 R
def c374 : IFn := { np := 3, rs := [.t 6], body := (.seq (.ops [⟨some 3, none, .box 20 (.t 0)⟩, ⟨some 6, none, .mv (.k (.bool false))⟩]) (.seq (.draw [0, 1, 0, 0, 8, 24, 60, 0, 0, 256, 768, 1920, 3, 4223, 16383] [[3], [17], [1], [1], [20], [21], [19, 22], [2], [2], [25], [26], [24, 27], [3, 18], [23], [28]] [⟨some 17, none, .load true 5 (.t 3)⟩, ⟨some 18, none, .call 364 [.t 17]⟩, ⟨some 19, none, .mv (.t 1)⟩, ⟨some 20, none, .mv (.t 1)⟩, ⟨some 21, none, .lenS (.t 20)⟩, ⟨some 22, none, .mm false [.t 21, .k (.int .i64 20)]⟩, ⟨some 23, none, .slcS 4 1 (.t 19) none (some (.t 22)) none⟩, ⟨some 24, none, .mv (.t 2)⟩, ⟨some 25, none, .mv (.t 2)⟩, ⟨some 26, none, .lenS (.t 25)⟩, ⟨some 27, none, .mm false [.t 26, .k (.int .i64 1500)]⟩, ⟨some 28, none, .slcS 4 1 (.t 24) none (some (.t 27)) none⟩, ⟨none, none, .store 5 (.t 3) (.t 18)⟩, ⟨some 1, none, .mv (.t 23)⟩, ⟨some 2, none, .mv (.t 28)⟩]) (.keep [1, 2, 3] (.seq (.seq (.ops [⟨some 30, none, .load true 5 (.t 3)⟩, ⟨some 31, none, .call 365 [.t 30]⟩, ⟨some 29, none, .mv (.t 31)⟩, ⟨some 32, none, .ext (.t 29) 0⟩, ⟨some 33, none, .ext (.t 29) 1⟩, ⟨some 7, none, .mv (.t 32)⟩, ⟨some 8, none, .mv (.t 33)⟩]) (.keep [1, 2, 3, 7, 8] (.seq (.ops [⟨some 34, none, .mv (.t 8)⟩, ⟨some 35, none, .bin .eql (.t 34) (.k (.int .i64 0))⟩]) (.cond (.t 35) (.seq (.ops [⟨some 37, none, .bslice 4 1 0 [.int .u8 0] []⟩, ⟨some 38, none, .mv (.t 7)⟩, ⟨some 39, none, .app 4 1 (.t 37) (.t 38)⟩, ⟨some 40, none, .mv (.t 1)⟩, ⟨some 41, none, .app 4 1 (.t 39) (.t 40)⟩, ⟨some 42, none, .call 372 [.t 41]⟩, ⟨some 36, none, .mv (.t 42)⟩, ⟨some 43, none, .ext (.t 36) 0⟩, ⟨some 44, none, .ext (.t 36) 1⟩, ⟨some 45, none, .ext (.t 36) 2⟩, ⟨some 9, none, .alloc 20 [.int .i64 0, .int .i64 0, .int .i64 0, .str [], .nils]⟩, ⟨none, none, .store 5 (.t 9) (.t 43)⟩, ⟨some 10, none, .mv (.t 44)⟩, ⟨some 11, none, .mv (.t 45)⟩]) (.keep [1, 2, 3, 9, 10, 11] (.seq (.ops [⟨some 46, none, .mv (.t 11)⟩, ⟨some 47, none, .bin .neq (.t 46) (.k (.int .i64 0))⟩, ⟨some 48, none, .mv (.t 47)⟩, ⟨some 49, some (48, false), .load true 5 (.t 3)⟩, ⟨some 50, some (48, false), .load true 5 (.t 9)⟩, ⟨some 51, some (48, false), .call 175 [.t 49, .t 50]⟩, ⟨some 52, some (48, false), .un .not (.t 51)⟩, ⟨some 53, none, .pick (.t 48) (.k (.bool true)) (.t 52)⟩, ⟨some 54, none, .mv (.t 53)⟩, ⟨some 55, some (54, false), .mv (.t 10)⟩, ⟨some 56, some (54, false), .mv (.t 1)⟩, ⟨some 57, some (54, false), .call 47 [.t 55, .t 56]⟩, ⟨some 58, some (54, false), .un .not (.t 57)⟩, ⟨some 59, none, .pick (.t 54) (.k (.bool true)) (.t 58)⟩]) (.keep [2, 59] (.cond (.t 59) (.seq (.ops [⟨some 6, none, .mv (.k (.bool false))⟩]) .ret) .skip))))) .skip)))) (.keep [2] (.seq (.ops [⟨some 61, none, .mv (.t 2)⟩, ⟨some 62, none, .call 372 [.t 61]⟩, ⟨some 60, none, .mv (.t 62)⟩, ⟨some 63, none, .ext (.t 60) 0⟩, ⟨some 64, none, .ext (.t 60) 1⟩, ⟨some 65, none, .ext (.t 60) 2⟩, ⟨some 12, none, .alloc 20 [.int .i64 0, .int .i64 0, .int .i64 0, .str [], .nils]⟩, ⟨none, none, .store 5 (.t 12) (.t 63)⟩, ⟨some 13, none, .mv (.t 64)⟩, ⟨some 14, none, .mv (.t 65)⟩]) (.keep [2, 12, 13, 14] (.seq (.seq (.ops [⟨some 66, none, .mv (.t 14)⟩, ⟨some 67, none, .bin .neq (.t 66) (.k (.int .i64 0))⟩]) (.cond (.t 67) (.seq (.ops [⟨some 68, none, .mv (.t 13)⟩, ⟨some 69, none, .lenS (.t 68)⟩, ⟨some 70, none, .bin .eql (.t 69) (.k (.int .i64 0))⟩, ⟨some 71, none, .mv (.t 70)⟩, ⟨some 72, some (71, true), .fldA 4 (.t 12)⟩, ⟨some 73, some (71, true), .load false 1 (.t 72)⟩, ⟨some 74, some (71, true), .lenS (.t 73)⟩, ⟨some 75, some (71, true), .bin .eql (.t 74) (.k (.int .i64 0))⟩, ⟨some 76, none, .pick (.t 71) (.t 75) (.k (.bool false))⟩, ⟨some 77, none, .mv (.t 76)⟩, ⟨some 78, some (77, true), .call 367 []⟩, ⟨some 79, none, .pick (.t 77) (.t 78) (.k (.bool false))⟩, ⟨some 6, none, .mv (.t 79)⟩]) (.keep [6] .ret)) .skip)) (.keep [2, 12, 13] (.seq (.ops [⟨some 81, none, .load true 5 (.t 12)⟩, ⟨some 82, none, .call 365 [.t 81]⟩, ⟨some 80, none, .mv (.t 82)⟩, ⟨some 83, none, .ext (.t 80) 0⟩, ⟨some 84, none, .ext (.t 80) 1⟩, ⟨some 15, none, .mv (.t 83)⟩, ⟨some 16, none, .mv (.t 84)⟩]) (.keep [2, 13, 15, 16] (.seq (.ops [⟨some 85, none, .mv (.t 16)⟩, ⟨some 86, none, .bin .eql (.t 85) (.k (.int .i64 0))⟩, ⟨some 87, none, .mv (.t 86)⟩, ⟨some 88, some (87, true), .mv (.t 15)⟩, ⟨some 89, some (87, true), .mv (.t 13)⟩, ⟨some 90, some (87, true), .app 4 1 (.t 88) (.t 89)⟩, ⟨some 91, some (87, true), .mv (.t 2)⟩, ⟨some 92, some (87, true), .call 47 [.t 90, .t 91]⟩, ⟨some 93, none, .pick (.t 87) (.t 92) (.k (.bool false))⟩, ⟨some 94, none, .mv (.t 93)⟩, ⟨some 95, some (94, true), .call 367 []⟩, ⟨some 96, none, .pick (.t 94) (.t 95) (.k (.bool false))⟩, ⟨some 6, none, .mv (.t 96)⟩]) (.keep [6] .ret))))))))))))) }
structure N374 (R : Env) : Prop where
  o374 : R.Fn 374 c374
  n47 : N47 R
  n175 : N175 R
  n364 : N364 R
  n365 : N365 R
  n367 : N367 R
  n372 : N372 R
def c375 : IFn := { np := 2, rs := [.t 4], body := (.seq (.ops [⟨some 2, none, .box 16 (.t 0)⟩, ⟨some 4, none, .mv (.k (.bool false))⟩]) (.seq (.draw [0, 1, 0, 0, 8, 24, 60, 3, 255] [[2], [13], [1], [1], [16], [17], [15, 18], [2, 14], [19]] [⟨some 13, none, .load true 8 (.t 2)⟩, ⟨some 14, none, .call 135 [.t 13]⟩, ⟨some 15, none, .mv (.t 1)⟩, ⟨some 16, none, .mv (.t 1)⟩, ⟨some 17, none, .lenS (.t 16)⟩, ⟨some 18, none, .mm false [.t 17, .k (.int .i64 2500)]⟩, ⟨some 19, none, .slcS 4 1 (.t 15) none (some (.t 18)) none⟩, ⟨none, none, .store 8 (.t 2) (.t 14)⟩, ⟨some 1, none, .mv (.t 19)⟩]) (.keep [1, 2] (.seq (.ops [⟨some 21, none, .load true 8 (.t 2)⟩, ⟨some 22, none, .call 376 [.t 21]⟩, ⟨some 20, none, .mv (.t 22)⟩, ⟨some 23, none, .ext (.t 20) 0⟩, ⟨some 24, none, .ext (.t 20) 1⟩, ⟨some 5, none, .mv (.t 23)⟩, ⟨some 6, none, .mv (.t 24)⟩]) (.keep [1, 2, 5, 6] (.seq (.ops [⟨some 26, none, .load true 8 (.t 2)⟩, ⟨some 27, none, .call 377 [.t 26]⟩, ⟨some 25, none, .mv (.t 27)⟩, ⟨some 28, none, .ext (.t 25) 0⟩, ⟨some 29, none, .ext (.t 25) 1⟩, ⟨some 7, none, .mv (.t 28)⟩, ⟨some 8, none, .mv (.t 29)⟩]) (.keep [1, 5, 6, 7, 8] (.seq (.ops [⟨some 31, none, .mv (.t 1)⟩, ⟨some 32, none, .call 378 [.t 31]⟩, ⟨some 30, none, .mv (.t 32)⟩, ⟨some 33, none, .ext (.t 30) 0⟩, ⟨some 34, none, .ext (.t 30) 1⟩, ⟨some 9, none, .alloc 16 [.int .i64 0, .int .i64 0, .nils, .nils, .nils, .nils, .nils, .nils]⟩, ⟨none, none, .store 8 (.t 9) (.t 33)⟩, ⟨some 10, none, .mv (.t 34)⟩]) (.keep [1, 5, 6, 7, 8, 9, 10] (.seq (.ops [⟨some 36, none, .mv (.t 1)⟩, ⟨some 37, none, .call 379 [.t 36]⟩, ⟨some 35, none, .mv (.t 37)⟩, ⟨some 38, none, .ext (.t 35) 0⟩, ⟨some 39, none, .ext (.t 35) 1⟩, ⟨some 11, none, .alloc 16 [.int .i64 0, .int .i64 0, .nils, .nils, .nils, .nils, .nils, .nils]⟩, ⟨none, none, .store 8 (.t 11) (.t 38)⟩, ⟨some 12, none, .mv (.t 39)⟩]) (.keep [5, 6, 7, 8, 9, 10, 11, 12] (.seq (.ops [⟨some 40, none, .mv (.t 5)⟩, ⟨some 41, none, .mv (.t 7)⟩, ⟨some 42, none, .call 47 [.t 40, .t 41]⟩, ⟨some 43, none, .mv (.t 42)⟩, ⟨some 44, some (43, true), .mv (.t 6)⟩, ⟨some 45, some (43, true), .mv (.t 8)⟩, ⟨some 46, some (43, true), .bin .eql (.t 44) (.t 45)⟩, ⟨some 47, none, .pick (.t 43) (.t 46) (.k (.bool false))⟩, ⟨some 48, none, .mv (.t 47)⟩, ⟨some 49, some (48, true), .load true 8 (.t 9)⟩, ⟨some 50, some (48, true), .load true 8 (.t 11)⟩, ⟨some 51, some (48, true), .call 117 [.t 49, .t 50]⟩, ⟨some 52, none, .pick (.t 48) (.t 51) (.k (.bool false))⟩, ⟨some 53, none, .mv (.t 52)⟩, ⟨some 54, some (53, true), .mv (.t 10)⟩, ⟨some 55, some (53, true), .mv (.t 12)⟩, ⟨some 56, some (53, true), .bin .eql (.t 54) (.t 55)⟩, ⟨some 57, none, .pick (.t 53) (.t 56) (.k (.bool false))⟩, ⟨some 58, none, .mv (.t 57)⟩, ⟨some 59, some (58, true), .call 367 []⟩, ⟨some 60, none, .pick (.t 58) (.t 59) (.k (.bool false))⟩, ⟨some 4, none, .mv (.t 60)⟩]) (.keep [4] .ret))))))))))))) }
structure N375 (R : Env) : Prop where
  o375 : R.Fn 375 c375
  n47 : N47 R
  n117 : N117 R
  n135 : N135 R
  n367 : N367 R
  n376 : N376 R
  n377 : N377 R
  n378 : N378 R
  n379 : N379 R
def c380 : IFn := { np := 2, rs := [.t 4], body := (.seq (.ops [⟨some 2, none, .box 16 (.t 0)⟩, ⟨some 4, none, .mv (.k (.bool false))⟩]) (.seq (.draw [0, 1, 0, 0, 8, 24, 60, 3, 255] [[2], [17], [1], [1], [20], [21], [19, 22], [2, 18], [23]] [⟨some 17, none, .load true 8 (.t 2)⟩, ⟨some 18, none, .call 135 [.t 17]⟩, ⟨some 19, none, .mv (.t 1)⟩, ⟨some 20, none, .mv (.t 1)⟩, ⟨some 21, none, .lenS (.t 20)⟩, ⟨some 22, none, .mm false [.t 21, .k (.int .i64 2500)]⟩, ⟨some 23, none, .slcS 4 1 (.t 19) none (some (.t 22)) none⟩, ⟨none, none, .store 8 (.t 2) (.t 18)⟩, ⟨some 1, none, .mv (.t 23)⟩]) (.keep [1, 2] (.seq (.seq (.ops [⟨some 25, none, .load true 8 (.t 2)⟩, ⟨some 26, none, .call 376 [.t 25]⟩, ⟨some 24, none, .mv (.t 26)⟩, ⟨some 27, none, .ext (.t 24) 0⟩, ⟨some 28, none, .ext (.t 24) 1⟩, ⟨some 5, none, .mv (.t 27)⟩, ⟨some 6, none, .mv (.t 28)⟩]) (.keep [1, 2, 5, 6] (.seq (.ops [⟨some 29, none, .mv (.t 6)⟩, ⟨some 30, none, .bin .eql (.t 29) (.k (.int .i64 0))⟩]) (.cond (.t 30) (.seq (.ops [⟨some 32, none, .mv (.t 5)⟩, ⟨some 33, none, .call 378 [.t 32]⟩, ⟨some 31, none, .mv (.t 33)⟩, ⟨some 34, none, .ext (.t 31) 0⟩, ⟨some 35, none, .ext (.t 31) 1⟩, ⟨some 7, none, .alloc 16 [.int .i64 0, .int .i64 0, .nils, .nils, .nils, .nils, .nils, .nils]⟩, ⟨none, none, .store 8 (.t 7) (.t 34)⟩, ⟨some 8, none, .mv (.t 35)⟩]) (.keep [1, 2, 7, 8] (.seq (.ops [⟨some 37, none, .load true 8 (.t 2)⟩, ⟨some 38, none, .call 132 [.t 37]⟩, ⟨some 36, none, .mv (.t 38)⟩, ⟨some 39, none, .ext (.t 36) 0⟩, ⟨some 40, none, .ext (.t 36) 1⟩, ⟨some 9, none, .mv (.t 39)⟩, ⟨some 10, none, .mv (.t 40)⟩]) (.keep [1, 2, 7, 8, 9, 10] (.seq (.ops [⟨some 42, none, .mv (.t 9)⟩, ⟨some 43, none, .call 369 [.t 42]⟩, ⟨some 41, none, .mv (.t 43)⟩, ⟨some 44, none, .ext (.t 41) 0⟩, ⟨some 45, none, .ext (.t 41) 1⟩, ⟨some 11, none, .alloc 16 [.int .i64 0, .int .i64 0, .nils, .nils, .nils, .nils, .nils, .nils]⟩, ⟨none, none, .store 8 (.t 11) (.t 44)⟩, ⟨some 12, none, .mv (.t 45)⟩]) (.keep [1, 2, 7, 8, 10, 11, 12] (.seq (.ops [⟨some 46, none, .mv (.t 8)⟩, ⟨some 47, none, .bin .neq (.t 46) (.k (.int .i64 0))⟩, ⟨some 48, none, .mv (.t 47)⟩, ⟨some 49, some (48, false), .load true 8 (.t 2)⟩, ⟨some 50, some (48, false), .load true 8 (.t 7)⟩, ⟨some 51, some (48, false), .call 120 [.t 49, .t 50]⟩, ⟨some 52, some (48, false), .un .not (.t 51)⟩, ⟨some 53, none, .pick (.t 48) (.k (.bool true)) (.t 52)⟩, ⟨some 54, none, .mv (.t 53)⟩, ⟨some 55, some (54, false), .mv (.t 10)⟩, ⟨some 56, some (54, false), .bin .neq (.t 55) (.k (.int .i64 0))⟩, ⟨some 57, none, .pick (.t 54) (.k (.bool true)) (.t 56)⟩, ⟨some 58, none, .mv (.t 57)⟩, ⟨some 59, some (58, false), .mv (.t 12)⟩, ⟨some 60, some (58, false), .bin .neq (.t 59) (.k (.int .i64 0))⟩, ⟨some 61, none, .pick (.t 58) (.k (.bool true)) (.t 60)⟩, ⟨some 62, none, .mv (.t 61)⟩, ⟨some 63, some (62, false), .load true 8 (.t 2)⟩, ⟨some 64, some (62, false), .load true 8 (.t 11)⟩, ⟨some 65, some (62, false), .call 120 [.t 63, .t 64]⟩, ⟨some 66, some (62, false), .un .not (.t 65)⟩, ⟨some 67, none, .pick (.t 62) (.k (.bool true)) (.t 66)⟩]) (.keep [1, 67] (.cond (.t 67) (.seq (.ops [⟨some 4, none, .mv (.k (.bool false))⟩]) .ret) .skip))))))))) .skip)))) (.keep [1] (.seq (.ops [⟨some 69, none, .mv (.t 1)⟩, ⟨some 70, none, .call 378 [.t 69]⟩, ⟨some 68, none, .mv (.t 70)⟩, ⟨some 71, none, .ext (.t 68) 0⟩, ⟨some 72, none, .ext (.t 68) 1⟩, ⟨some 13, none, .alloc 16 [.int .i64 0, .int .i64 0, .nils, .nils, .nils, .nils, .nils, .nils]⟩, ⟨none, none, .store 8 (.t 13) (.t 71)⟩, ⟨some 14, none, .mv (.t 72)⟩]) (.keep [1, 13, 14] (.seq (.seq (.ops [⟨some 73, none, .mv (.t 14)⟩, ⟨some 74, none, .bin .neq (.t 73) (.k (.int .i64 0))⟩]) (.cond (.t 74) (.seq (.ops [⟨some 75, none, .load true 8 (.t 13)⟩, ⟨some 76, none, .build [.int .i64 0, .int .i64 0, .nils, .nils, .nils, .nils, .nils, .nils] []⟩, ⟨some 77, none, .call 120 [.t 75, .t 76]⟩, ⟨some 78, none, .mv (.t 77)⟩, ⟨some 79, some (78, true), .call 367 []⟩, ⟨some 80, none, .pick (.t 78) (.t 79) (.k (.bool false))⟩, ⟨some 4, none, .mv (.t 80)⟩]) (.keep [4] .ret)) .skip)) (.keep [1, 13] (.seq (.ops [⟨some 82, none, .load true 8 (.t 13)⟩, ⟨some 83, none, .call 376 [.t 82]⟩, ⟨some 81, none, .mv (.t 83)⟩, ⟨some 84, none, .ext (.t 81) 0⟩, ⟨some 85, none, .ext (.t 81) 1⟩, ⟨some 15, none, .mv (.t 84)⟩, ⟨some 16, none, .mv (.t 85)⟩]) (.keep [1, 15, 16] (.seq (.ops [⟨some 86, none, .mv (.t 16)⟩, ⟨some 87, none, .bin .eql (.t 86) (.k (.int .i64 0))⟩, ⟨some 88, none, .mv (.t 87)⟩, ⟨some 89, some (88, true), .mv (.t 15)⟩, ⟨some 90, some (88, true), .mv (.t 1)⟩, ⟨some 91, some (88, true), .call 47 [.t 89, .t 90]⟩, ⟨some 92, none, .pick (.t 88) (.t 91) (.k (.bool false))⟩, ⟨some 93, none, .mv (.t 92)⟩, ⟨some 94, some (93, true), .call 367 []⟩, ⟨some 95, none, .pick (.t 93) (.t 94) (.k (.bool false))⟩, ⟨some 4, none, .mv (.t 95)⟩]) (.keep [4] .ret))))))))))))) }
structure N380 (R : Env) : Prop where
  o380 : R.Fn 380 c380
  n47 : N47 R
  n120 : N120 R
  n132 : N132 R
  n135 : N135 R
  n367 : N367 R
  n369 : N369 R
  n376 : N376 R
  n378 : N378 R
end Go.UM

namespace Go.UM
open Go.AM
structure Mf where
  (id kind label m0 m1 m2 m3 m4 m5 m6 m7 first last size chunks : Int)
def Mf.row (m : Mf) : List AV := [.int .u64 m.id, .int .i64 m.kind, .int .u32 m.label, .int .u8 m.m0, .int .u8 m.m1, .int .u8 m.m2, .int .u8 m.m3, .int .u8 m.m4, .int .u8 m.m5, .int .u8 m.m6, .int .u8 m.m7,
  .int .u32 m.first, .int .u32 m.last, .int .i64 m.size, .int .i64 m.chunks]
def Mf.mask (m : Mf) : Nat → Int
  | 0 => m.m0 | 1 => m.m1 | 2 => m.m2 | 3 => m.m3 | 4 => m.m4 | 5 => m.m5 | 6 => m.m6 | 7 => m.m7 | _ => 0
structure Mf.Ok (m : Mf) : Prop where
  id : inI .u64 m.id
  kind : inI .i64 m.kind
  label : inI .u32 m.label
  mask : ∀ i, 0 ≤ m.mask i ∧ m.mask i ≤ 255
  first : inI .u32 m.first
  last : inI .u32 m.last
  size : inI .i64 m.size
  chunks : inI .i64 m.chunks
end Go.UM

namespace Go.UM
open Go.AM
def u8 (n : Int) : UInt8 := UInt8.ofNat (n % 256).toNat
theorem wr_u8 (n : Int) : wr .u8 n = ((u8 n).toNat : Int) := by
  have h1 : 0 ≤ n % 256 := Int.emod_nonneg _ (by decide)
  have h2 : n % 256 < 256 := Int.emod_lt_of_pos _ (by decide)
  simp only [wr, IntKind.wrap, IntKind.bits, IntKind.signed, u8]
  simp
  omega
theorem u8_mod (n : Int) : u8 (n % 256) = u8 n := by unfold u8; rw [Int.emod_emod_of_dvd n (Int.dvd_refl 256)]
theorem u8_toNat (c : UInt8) : u8 (c.toNat : Int) = c := by
  have := c.toNat_lt
  unfold u8
  rw [show ((c.toNat : Int) % 256).toNat = c.toNat by omega]
  simp
theorem u8_in {n : Int} (h : 0 ≤ n ∧ n ≤ 255) : ((u8 n).toNat : Int) = n := by rw [← wr_u8, wr_in (k := .u8) h]
def slc8 (l : List UInt8) : List (List AV) := l.map fun c => [.int .u8 c.toNat]
def slcK (k : IntKind) (l : List Int) : List (List AV) := l.map fun x => [.int k x]
@[simp] theorem slc8_nil : slc8 [] = [] := rfl
@[simp] theorem slc8_length (l : List UInt8) : (slc8 l).length = l.length := by simp [slc8]
@[simp] theorem slc8_append (a b : List UInt8) : slc8 (a ++ b) = slc8 a ++ slc8 b := by simp [slc8]
@[simp] theorem slc8_one (n : Int) : [[AV.int .u8 (wr .u8 n)]] = slc8 [u8 n] := by simp [slc8, wr_u8]
@[simp] theorem slcK_nil (k : IntKind) : slcK k [] = [] := rfl
@[simp] theorem slcK_length (k : IntKind) (l : List Int) : (slcK k l).length = l.length := by simp [slcK]
@[simp] theorem slcK_append (k : IntKind) (a b : List Int) : slcK k (a ++ b) = slcK k a ++ slcK k b := by simp [slcK]
@[simp] theorem slc8_NmL (l : List UInt8) : NmL (slc8 l) := by simp [slc8]
@[simp] theorem slcK_NmL (k : IntKind) (l : List Int) : NmL (slcK k l) := by simp [slcK]
@[simp] theorem slc8_FlL (l : List UInt8) : FlL (slc8 l) := by simp [slc8]
@[simp] theorem slcK_FlL (k : IntKind) (l : List Int) : FlL (slcK k l) := by simp [slcK]
instance {l : List UInt8} : LenOf (slc8 l) l.length := ⟨slc8_length l⟩
instance {k : IntKind} {l : List Int} : LenOf (slcK k l) l.length := ⟨slcK_length k l⟩
@[simp] theorem mem_slc8 {e : List AV} {l : List UInt8} : e ∈ slc8 l ↔ ∃ c, c ∈ l ∧ [AV.int .u8 c.toNat] = e := by simp [slc8]
@[simp] theorem mem_slcK {k : IntKind} {e : List AV} {l : List Int} : e ∈ slcK k l ↔ ∃ c, c ∈ l ∧ [AV.int k c] = e := by simp [slcK]
theorem slc8_take (l : List UInt8) (k : Nat) : (slc8 l).take k = slc8 (l.take k) := by simp [slc8, List.map_take]
theorem slc8_drop (l : List UInt8) (k : Nat) : (slc8 l).drop k = slc8 (l.drop k) := by simp [slc8, List.map_drop]
theorem slcK_take (k' : IntKind) (l : List Int) (k : Nat) : (slcK k' l).take k = slcK k' (l.take k) := by simp [slcK, List.map_take]
theorem slcK_drop (k' : IntKind) (l : List Int) (k : Nat) : (slcK k' l).drop k = slcK k' (l.drop k) := by simp [slcK, List.map_drop]
theorem take_succ_get {α : Type} {l : List α} {k : Nat} {x : α} (h : l[k]? = some x) : l.take (k + 1) = l.take k ++ [x] := by
  rw [List.take_add_one, h]; rfl
theorem shr_eq {k : IntKind} {x y : Int} (hx : 0 ≤ x) : shrI k x y = x / 2 ^ (min y.toNat k.bits) := by
  unfold shrI
  rw [Int.fdiv_eq_ediv_of_nonneg]
  exact Int.le_of_lt (Int.pow_pos (by decide))
theorem aS8 {s : List UInt8} {K : List UInt8 → Prop} (k : K s) : AStr (slc8 s) K := ⟨⟨s, rfl, k⟩⟩
theorem take_cap {α : Type} (l : List α) (m : Int) : l.take (min (l.length : Int) m).toNat = l.take m.toNat := by
  by_cases h : (l.length : Int) ≤ m
  · rw [show (min (l.length : Int) m).toNat = l.length by omega, List.take_of_length_le (Nat.le_refl _), List.take_of_length_le (by omega)]
  · rw [show (min (l.length : Int) m).toNat = m.toNat by omega]
theorem capK (k : IntKind) (b : List Int) (m : Int) : (slcK k b).take (min (b.length : Int) m).toNat = slcK k (b.take m.toNat) := by rw [slcK_take, take_cap]
instance {l : List UInt8} {k : Nat} : TkOf ((slc8 l).take k) (slc8 (l.take k)) := ⟨slc8_take l k⟩
instance {l : List UInt8} {k : Nat} : TkOf ((slc8 l).drop k) (slc8 (l.drop k)) := ⟨slc8_drop l k⟩
instance {l : List UInt8} {k j : Nat} : TkOf (((slc8 l).take k).drop j) (slc8 ((l.take k).drop j)) := ⟨by rw [slc8_take, slc8_drop]⟩
instance {kk : IntKind} {l : List Int} {k : Nat} : TkOf ((slcK kk l).take k) (slcK kk (l.take k)) := ⟨slcK_take kk l k⟩
instance {kk : IntKind} {l : List Int} {k : Nat} : TkOf ((slcK kk l).drop k) (slcK kk (l.drop k)) := ⟨slcK_drop kk l k⟩
instance {kk : IntKind} {l : List Int} {k j : Nat} : TkOf (((slcK kk l).take k).drop j) (slcK kk ((l.take k).drop j)) := ⟨by rw [slcK_take, slcK_drop]⟩
end Go.UM

namespace Go.UM
open Go.AM
set_option maxRecDepth 4000
structure Pl where
  (w h deep : Int)
  name : List UInt8
  data : List Int
def Pl.row (p : Pl) : List AV := [.int .i64 p.w, .int .i64 p.h, .int .i64 p.deep, .str p.name, .isl 1 (slcK .i64 p.data)]
theorem between_c {R : Env} (h : N157 R) (x a b : Int) : R.Pc 157 [.int .i64 x, .int .i64 a, .int .i64 b] (.bool (decide (a ≤ x) && decide (x ≤ b))) :=
  h.o157.enter 60 rfl fun X bb hfit hp => by
    refine sh ?_
    refine cS (fun h1 => ?_) (fun h1 => ?_)
    · refine sh ?_
      refine rT ?_
      all_goals repeat' (first | exact True.intro | refine And.intro ?_ ?_ | (intro _u; clear _u) | (with_reducible first | exact DnLe.fg | refine eM ?_ ?_ | refine eF ?_ ?_ ?_ | refine eN ?_ | refine eL ?_ ?_ ?_ | refine eA ?_ ?_ | refine IWk.mk ⟨_, hp, rfl⟩ ?_ ?_) | refine IWk.mk ⟨_, hp, rfl⟩ ?_ ?_)
      all_goals try first | with_reducible rfl | omega | exact .inl (by decide) | (simp; done) | rfl
      simp [h1]
    · refine sh ?_
      refine rT ?_
      all_goals repeat' (first | exact True.intro | refine And.intro ?_ ?_ | (intro _u; clear _u) | (with_reducible first | exact DnLe.fg | refine eM ?_ ?_ | refine eF ?_ ?_ ?_ | refine eN ?_ | refine eL ?_ ?_ ?_ | refine eA ?_ ?_ | refine IWk.mk ⟨_, hp, rfl⟩ ?_ ?_) | refine IWk.mk ⟨_, hp, rfl⟩ ?_ ?_)
      all_goals try first | with_reducible rfl | omega | exact .inl (by decide) | (simp; done) | rfl
      simp; omega
theorem all_bad {α : Type} {l : List α} {k : Nat} {x : α} {p : α → Bool} (h : l[k]? = some x) (hx : p x = false) : l.all p = false := by
  rw [List.all_eq_false]
  exact ⟨x, List.mem_of_getElem? h, by rw [hx]; simp⟩
theorem all_take_succ {α : Type} {l : List α} {k : Nat} {x : α} {p : α → Bool} (h : l[k]? = some x) : (l.take (k + 1)).all p = ((l.take k).all p && p x) := by
  rw [take_succ_get h, List.all_append]; simp
def upper (c : UInt8) : Bool := decide (65 ≤ c.toNat) && decide (c.toNat ≤ 90)
def named (s : List UInt8) : Bool := s.all upper && (decide (1 ≤ (s.length : Int)) && decide ((s.length : Int) ≤ 16))
theorem named_c {R : Env} (h : N158 R) (s : List UInt8) (hs : s.length ≤ 1073741824) : R.Pc 158 [.str s] (.bool (named s)) :=
  h.o158.enter 60 rfl fun X bb hfit hp => by
    refine sh ?_
    refine lPa 60 (fun k : Nat => k ≤ s.length ∧ (s.take k).all upper = true) (fun k => ⟨[(0, .str s), (6, .osl 0 s.length), (7, .int .i64 s.length), (8, .int .i64 k)], [(0, .arr (R.ty 4) 1 (slc8 s))], 1⟩) (fun k => s.length - k) (0) ?_ ?_
    · exact ⟨Nat.zero_le _, by simp⟩
    · intro k hk
      dsimp only
      refine sh ?_
      refine cS (fun h1 => ?_) (fun h1 => ?_)
      · obtain ⟨x, hx⟩ : ∃ u_, s[k]? = some u_ := ⟨_, List.getElem?_eq_getElem (by first | omega | (simp <;> omega))⟩
        refine sh ?_
        refine aelt_map (by simp) hx ?_
        have hx8 := x.toNat_lt
        refine sh ?_
        refine cS (fun h2 => ?_) (fun h2 => ?_)
        · refine sh ?_
          refine rT ?_
          all_goals repeat' (first | exact True.intro | refine And.intro ?_ ?_ | (intro _u; clear _u) | (with_reducible first | exact DnLe.fg | refine eM ?_ ?_ | refine eF ?_ ?_ ?_ | refine eN ?_ | refine eL ?_ ?_ ?_ | refine eA ?_ ?_ | refine IWk.mk ⟨_, hp, rfl⟩ ?_ ?_) | refine IWk.mk ⟨_, hp, rfl⟩ ?_ ?_)
          all_goals try first | with_reducible rfl | omega | exact .inl (by decide) | (simp; done) | rfl
          have hno : upper x = false := by simp [upper]; omega
          simp [named, all_bad hx hno]
        · refine sh ?_
          refine cS (fun h3 => ?_) (fun h3 => ?_)
          · refine sh ?_
            refine rT ?_
            all_goals repeat' (first | exact True.intro | refine And.intro ?_ ?_ | (intro _u; clear _u) | (with_reducible first | exact DnLe.fg | refine eM ?_ ?_ | refine eF ?_ ?_ ?_ | refine eN ?_ | refine eL ?_ ?_ ?_ | refine eA ?_ ?_ | refine IWk.mk ⟨_, hp, rfl⟩ ?_ ?_) | refine IWk.mk ⟨_, hp, rfl⟩ ?_ ?_)
            all_goals try first | with_reducible rfl | omega | exact .inl (by decide) | (simp; done) | rfl
            have hno : upper x = false := by simp [upper]; omega
            simp [named, all_bad hx hno]
          · refine sh ?_
            refine nXa (k + 1) ?_ ?_
            · refine ⟨by omega, ?_⟩
              have hyes : upper x = true := by simp [upper]; omega
              rw [all_take_succ hx, hk.2, hyes]; rfl
            · omega
      · have hk2 := hk.2
        rw [List.take_of_length_le (by omega)] at hk2
        refine sh ?_
        refine ICall.pure h.n157.o157.hb (between_c h.n157 s.length 1 16) rfl ?_
        refine sh ?_
        refine rT ?_
        all_goals repeat' (first | exact True.intro | refine And.intro ?_ ?_ | (intro _u; clear _u) | (with_reducible first | exact DnLe.fg | refine eM ?_ ?_ | refine eF ?_ ?_ ?_ | refine eN ?_ | refine eL ?_ ?_ ?_ | refine eA ?_ ?_ | refine IWk.mk ⟨_, hp, rfl⟩ ?_ ?_) | refine IWk.mk ⟨_, hp, rfl⟩ ?_ ?_)
        all_goals try first | with_reducible rfl | omega | exact .inl (by decide) | (simp; done) | rfl
        simp [named, hk2]
def pchk (p : Pl) : Int :=
  if ¬ (1 ≤ p.w ∧ p.w ≤ 64) ∨ ¬ (1 ≤ p.h ∧ p.h ≤ 64) ∨ ¬ (1 ≤ p.deep ∧ p.deep ≤ 4) then 2
  else if named p.name = false ∨ (p.data.length : Int) ≠ p.w * p.h * p.deep then 5
  else if p.data.all (fun x => decide (0 ≤ x) && decide (x ≤ 65535)) = false then 5 else 0
theorem pcheck_c {R : Env} (h : N153 R) (p : Pl) (hs : p.name.length ≤ 1073741824) : R.Pc 153 [.agg p.row] (.int .i64 (pchk p)) :=
  h.o153.enter 60 rfl fun X bb hfit hp => by
    refine sh ?_
    refine ICall.pure h.n157.o157.hb (between_c h.n157 p.w 1 64) rfl ?_
    refine sh ?_
    refine cS (fun h1 => ?_) (fun h1 => ?_)
    · refine sh ?_
      refine rT ?_
      all_goals repeat' (first | exact True.intro | refine And.intro ?_ ?_ | (intro _u; clear _u) | (with_reducible first | exact DnLe.fg | refine eM ?_ ?_ | refine eF ?_ ?_ ?_ | refine eN ?_ | refine eL ?_ ?_ ?_ | refine eA ?_ ?_ | refine IWk.mk ⟨_, hp, rfl⟩ ?_ ?_) | refine IWk.mk ⟨_, hp, rfl⟩ ?_ ?_)
      all_goals try first | with_reducible rfl | omega | exact .inl (by decide) | (simp; done) | rfl
      unfold pchk; rw [if_pos (.inl (by simp at h1 ⊢; omega))]
    · refine sh ?_
      refine ICall.pure h.n157.o157.hb (between_c h.n157 p.h 1 64) rfl ?_
      refine sh ?_
      refine cS (fun h2 => ?_) (fun h2 => ?_)
      · refine sh ?_
        refine rT ?_
        all_goals repeat' (first | exact True.intro | refine And.intro ?_ ?_ | (intro _u; clear _u) | (with_reducible first | exact DnLe.fg | refine eM ?_ ?_ | refine eF ?_ ?_ ?_ | refine eN ?_ | refine eL ?_ ?_ ?_ | refine eA ?_ ?_ | refine IWk.mk ⟨_, hp, rfl⟩ ?_ ?_) | refine IWk.mk ⟨_, hp, rfl⟩ ?_ ?_)
        all_goals try first | with_reducible rfl | omega | exact .inl (by decide) | (simp; done) | rfl
        unfold pchk; rw [if_pos (.inr (.inl (by simp at h2 ⊢; omega)))]
      · refine sh ?_
        refine ICall.pure h.n157.o157.hb (between_c h.n157 p.deep 1 4) rfl ?_
        refine sh ?_
        refine cS (fun h3 => ?_) (fun h3 => ?_)
        · refine sh ?_
          refine rT ?_
          all_goals repeat' (first | exact True.intro | refine And.intro ?_ ?_ | (intro _u; clear _u) | (with_reducible first | exact DnLe.fg | refine eM ?_ ?_ | refine eF ?_ ?_ ?_ | refine eN ?_ | refine eL ?_ ?_ ?_ | refine eA ?_ ?_ | refine IWk.mk ⟨_, hp, rfl⟩ ?_ ?_) | refine IWk.mk ⟨_, hp, rfl⟩ ?_ ?_)
          all_goals try first | with_reducible rfl | omega | exact .inl (by decide) | (simp; done) | rfl
          unfold pchk; rw [if_pos (.inr (.inr (by simp at h3 ⊢; omega)))]
        · have hw : 1 ≤ p.w ∧ p.w ≤ 64 := by simp at h1; omega
          have hh : 1 ≤ p.h ∧ p.h ≤ 64 := by simp at h2; omega
          have hd : 1 ≤ p.deep ∧ p.deep ≤ 4 := by simp at h3; omega
          have e0 : pchk p = if named p.name = false ∨ (p.data.length : Int) ≠ p.w * p.h * p.deep then 5 else if p.data.all (fun x => decide (0 ≤ x) && decide (x ≤ 65535)) = false then 5 else 0 := by
            unfold pchk; rw [if_neg (by omega)]
          rw [e0]
          refine sh ?_
          refine ICall.pure h.n158.o158.hb (named_c h.n158 p.name hs) rfl ?_
          have b1 : 0 ≤ p.w * p.h ∧ p.w * p.h ≤ 4096 := ⟨Int.mul_nonneg (by omega) (by omega), by have := Int.mul_le_mul hw.2 hh.2 (by omega) (by omega); omega⟩
          have b2 : 0 ≤ p.w * p.h * p.deep ∧ p.w * p.h * p.deep ≤ 16384 := ⟨Int.mul_nonneg b1.1 (by omega), by have := Int.mul_le_mul b1.2 hd.2 (by omega) (by omega); omega⟩
          cases hn : named p.name with
          | false =>
            refine sh ?_
            exact rT
          | true =>
            refine sh ?_
            refine cS (fun h4 => ?_) (fun h4 => ?_)
            · refine sh ?_
              exact rT
            · rw [if_neg (by simp; omega)]
              refine sh ?_
              refine lPa 60 (fun k : Nat => k ≤ p.data.length ∧ (p.data.take k).all (fun x => decide (0 ≤ x) && decide (x ≤ 65535)) = true) (fun k => ⟨[(40, .isl 1 (slcK .i64 p.data)), (41, .int .i64 p.data.length), (42, .int .i64 k)], [], 1⟩) (fun k => p.data.length - k) (0) ?_ ?_
              · exact ⟨Nat.zero_le _, by simp⟩
              · intro k hk
                dsimp only
                refine sh ?_
                refine cS (fun h5 => ?_) (fun h5 => ?_)
                · obtain ⟨x, hx⟩ : ∃ u_, p.data[k]? = some u_ := ⟨_, List.getElem?_eq_getElem (by first | omega | (simp <;> omega))⟩
                  refine sh ?_
                  refine eget_map hx ?_
                  refine sh ?_
                  refine ICall.pure h.n157.o157.hb (between_c h.n157 x 0 65535) rfl ?_
                  refine sh ?_
                  refine cS (fun h6 => ?_) (fun h6 => ?_)
                  · refine sh ?_
                    refine rT ?_
                    all_goals repeat' (first | exact True.intro | refine And.intro ?_ ?_ | (intro _u; clear _u) | (with_reducible first | exact DnLe.fg | refine eM ?_ ?_ | refine eF ?_ ?_ ?_ | refine eN ?_ | refine eL ?_ ?_ ?_ | refine eA ?_ ?_ | refine IWk.mk ⟨_, hp, rfl⟩ ?_ ?_) | refine IWk.mk ⟨_, hp, rfl⟩ ?_ ?_)
                    all_goals try first | with_reducible rfl | omega | exact .inl (by decide) | (simp; done) | rfl
                    rw [if_pos (all_bad hx (by simpa using h6))]
                  · refine sh ?_
                    refine nXa (k + 1) ?_ ?_
                    · refine ⟨by omega, ?_⟩
                      rw [all_take_succ hx, hk.2]; simpa using h6
                    · omega
                · have hk2 := hk.2
                  rw [List.take_of_length_le (by omega)] at hk2
                  rw [if_neg (by rw [hk2]; decide)]
                  refine sh ?_
                  exact rT
def slP (l : List Pl) : List (List AV) := l.map Pl.row
@[simp] theorem slP_nil : slP [] = [] := rfl
@[simp] theorem slP_length (l : List Pl) : (slP l).length = l.length := by simp [slP]
@[simp] theorem slP_append (a b : List Pl) : slP (a ++ b) = slP a ++ slP b := by simp [slP]
@[simp] theorem slP_NmL (l : List Pl) : NmL (slP l) := by simp [slP, Pl.row]
instance {l : List Pl} : LenOf (slP l) l.length := ⟨slP_length l⟩
end Go.UM

namespace Go.UM
open Go.AM
set_option maxRecDepth 4000
theorem pchk_2 {p : Pl} (h : ¬ (1 ≤ p.w ∧ p.w ≤ 64) ∨ ¬ (1 ≤ p.h ∧ p.h ≤ 64) ∨ ¬ (1 ≤ p.deep ∧ p.deep ≤ 4)) : pchk p = 2 := by unfold pchk; rw [if_pos h]
theorem pchk_n {p : Pl} (h : ¬ (¬ (1 ≤ p.w ∧ p.w ≤ 64) ∨ ¬ (1 ≤ p.h ∧ p.h ≤ 64) ∨ ¬ (1 ≤ p.deep ∧ p.deep ≤ 4))) (h2 : named p.name = false ∨ (p.data.length : Int) ≠ p.w * p.h * p.deep) : pchk p = 5 := by unfold pchk; rw [if_neg h, if_pos h2]
def px (x : Int) : Bool := decide (0 ≤ x) && decide (x ≤ 65535)
theorem pchk_d {p : Pl} (h : ¬ (¬ (1 ≤ p.w ∧ p.w ≤ 64) ∨ ¬ (1 ≤ p.h ∧ p.h ≤ 64) ∨ ¬ (1 ≤ p.deep ∧ p.deep ≤ 4))) (h2 : ¬ (named p.name = false ∨ (p.data.length : Int) ≠ p.w * p.h * p.deep)) : pchk p = if p.data.all px = false then 5 else 0 := by unfold pchk; rw [if_neg h, if_neg h2]; rfl
theorem rpcheck_c {R : Env} (h : N162 R) (p : Pl) (hs : p.name.length ≤ 1073741824) : R.Pc 162 [.agg p.row] (.int .i64 (pchk p)) :=
  h.o162.enter 100 rfl fun X bb hfit hp => by
    generalize hq : pchk p = q
    refine sh ?_
    refine cS (fun h1 => ?_) (fun h1 => ?_)
    · rw [pchk_2 (by omega)] at hq
      subst hq
      refine sh ?_
      exact rT
    · refine sh ?_
      refine cS (fun h2 => ?_) (fun h2 => ?_)
      · rw [pchk_2 (by omega)] at hq
        subst hq
        refine sh ?_
        exact rT
      · refine sh ?_
        refine cS (fun h3 => ?_) (fun h3 => ?_)
        · rw [pchk_2 (by omega)] at hq
          subst hq
          refine sh ?_
          exact rT
        · refine sh ?_
          refine cS (fun h4 => ?_) (fun h4 => ?_)
          · rw [pchk_2 (by omega)] at hq
            subst hq
            refine sh ?_
            exact rT
          · refine sh ?_
            refine cS (fun h5 => ?_) (fun h5 => ?_)
            · rw [pchk_2 (by omega)] at hq
              subst hq
              refine sh ?_
              exact rT
            · refine sh ?_
              refine cS (fun h6 => ?_) (fun h6 => ?_)
              · rw [pchk_2 (by omega)] at hq
                subst hq
                refine sh ?_
                exact rT
              · have hin : ¬ (¬ (1 ≤ p.w ∧ p.w ≤ 64) ∨ ¬ (1 ≤ p.h ∧ p.h ≤ 64) ∨ ¬ (1 ≤ p.deep ∧ p.deep ≤ 4)) := by omega
                have b1 : 0 ≤ p.w * p.h ∧ p.w * p.h ≤ 4096 := ⟨Int.mul_nonneg (by omega) (by omega), by have := Int.mul_le_mul h2 h4 (by omega) (by omega); omega⟩
                have b2 : 0 ≤ p.w * p.h * p.deep ∧ p.w * p.h * p.deep ≤ 16384 := ⟨Int.mul_nonneg b1.1 (by omega), by have := Int.mul_le_mul b1.2 h6 (by omega) (by omega); omega⟩
                have hnl : ¬ (1 ≤ (p.name.length : Int) ∧ (p.name.length : Int) ≤ 16) → named p.name = false := fun hh => by
                  simp [named]; omega
                refine sh ?_
                refine cS (fun h7 => ?_) (fun h7 => ?_)
                · rw [pchk_n hin (.inl (hnl (by omega)))] at hq
                  subst hq
                  refine sh ?_
                  exact rT
                · refine sh ?_
                  refine cS (fun h8 => ?_) (fun h8 => ?_)
                  · rw [pchk_n hin (.inl (hnl (by omega)))] at hq
                    subst hq
                    refine sh ?_
                    exact rT
                  · refine sh ?_
                    refine cS (fun h9 => ?_) (fun h9 => ?_)
                    · rw [pchk_n hin (.inr h9)] at hq
                      subst hq
                      refine sh ?_
                      exact rT
                    · refine sh ?_
                      refine lPa 100 (fun k : Nat => k ≤ p.name.length ∧ (p.name.take k).all upper = true) (fun k => ⟨[(1, .loc 0 1 0 0), (3, .int .i64 k)], [(0, .var (R.ty 20) p.row)], 1⟩) (fun k => p.name.length - k) (0) ?_ ?_
                      · exact ⟨Nat.zero_le _, by simp⟩
                      · intro k hk
                        dsimp only
                        refine sh ?_
                        refine cS (fun ha => ?_) (fun ha => ?_)
                        · obtain ⟨x, hx⟩ : ∃ u, p.name[k]? = some u := ⟨_, List.getElem?_eq_getElem (by omega)⟩
                          have hgx : p.name.getD ((k : Int)).toNat 0 = x := by simp [List.getD_eq_getElem?_getD, hx]
                          have hx8 := x.toNat_lt
                          refine st ?_
                          rw [hgx]
                          refine sh ?_
                          refine cS (fun hb => ?_) (fun hb => ?_)
                          · have hno : upper x = false := by simp [upper]; omega
                            rw [pchk_n hin (.inl (by simp [named, all_bad hx hno]))] at hq
                            subst hq
                            refine sh ?_
                            exact rT
                          · refine st ?_
                            rw [hgx]
                            refine sh ?_
                            refine cS (fun hc => ?_) (fun hc => ?_)
                            · have hno : upper x = false := by simp [upper]; omega
                              rw [pchk_n hin (.inl (by simp [named, all_bad hx hno]))] at hq
                              subst hq
                              refine sh ?_
                              exact rT
                            · refine sh ?_
                              refine nXa (k + 1) ?_ ?_
                              · refine ⟨by omega, ?_⟩
                                have hyes : upper x = true := by simp [upper]; omega
                                rw [all_take_succ hx, hk.2, hyes]; rfl
                              · omega
                        · have hk2 := hk.2
                          rw [List.take_of_length_le (by omega)] at hk2
                          have hnm : named p.name = true := by simp [named, hk2]; omega
                          rw [pchk_d hin (by rw [hnm]; simp; exact h9)] at hq
                          refine sh ?_
                          refine lPa 100 (fun k : Nat => k ≤ p.data.length ∧ (p.data.take k).all px = true) (fun k => ⟨[(1, .loc 0 1 0 0), (4, .int .i64 k)], [(0, .var (R.ty 20) p.row)], 1⟩) (fun k => p.data.length - k) (0) ?_ ?_
                          · exact ⟨Nat.zero_le _, by simp⟩
                          · intro k hk
                            dsimp only
                            refine sh ?_
                            refine cS (fun hb => ?_) (fun hb => ?_)
                            · obtain ⟨x, hx⟩ : ∃ u_, p.data[k]? = some u_ := ⟨_, List.getElem?_eq_getElem (by first | omega | (simp <;> omega))⟩
                              refine sh ?_
                              refine eget_map hx ?_
                              refine sh ?_
                              refine cS (fun hc => ?_) (fun hc => ?_)
                              · rw [if_pos (all_bad hx (by simp [px]; omega))] at hq
                                subst hq
                                refine sh ?_
                                exact rT
                              · refine sh ?_
                                refine eget_map hx ?_
                                refine sh ?_
                                refine cS (fun hd => ?_) (fun hd => ?_)
                                · rw [if_pos (all_bad hx (by simp [px]; omega))] at hq
                                  subst hq
                                  refine sh ?_
                                  exact rT
                                · refine sh ?_
                                  refine nXa (k + 1) ?_ ?_
                                  · refine ⟨by omega, ?_⟩
                                    have hyes : px x = true := by simp [px]; omega
                                    rw [all_take_succ hx, hk.2, hyes]; rfl
                                  · omega
                            · have hk3 := hk.2
                              rw [List.take_of_length_le (by omega)] at hk3
                              rw [if_neg (by rw [hk3]; decide)] at hq
                              subst hq
                              refine sh ?_
                              exact rT
end Go.UM

namespace Go.UM
open Go.AM
structure T3 where
  (a b c : Int)
def t3 (x : T3) : List AV := [.int .i64 x.a, .int .i64 x.b, .int .i64 x.c]
def slc3 (l : List T3) : List (List AV) := l.map t3
@[simp] theorem slc3_nil : slc3 [] = [] := rfl
@[simp] theorem slc3_length (l : List T3) : (slc3 l).length = l.length := by simp [slc3]
@[simp] theorem slc3_append (a b : List T3) : slc3 (a ++ b) = slc3 a ++ slc3 b := by simp [slc3]
@[simp] theorem slc3_NmL (l : List T3) : NmL (slc3 l) := by simp [slc3, t3]
@[simp] theorem slc3_FlL (l : List T3) : FlL (slc3 l) := by simp [slc3, t3]
theorem slc3_take (l : List T3) (k : Nat) : (slc3 l).take k = slc3 (l.take k) := by simp [slc3, List.map_take]
theorem slc3_drop (l : List T3) (k : Nat) : (slc3 l).drop k = slc3 (l.drop k) := by simp [slc3, List.map_drop]
instance {l : List T3} : LenOf (slc3 l) l.length := ⟨slc3_length l⟩
instance {l : List T3} {k : Nat} : TkOf ((slc3 l).take k) (slc3 (l.take k)) := ⟨slc3_take l k⟩
instance {l : List T3} {k : Nat} : TkOf ((slc3 l).drop k) (slc3 (l.drop k)) := ⟨slc3_drop l k⟩
end Go.UM

namespace Go.UM
open Go.AM
set_option maxRecDepth 4000
structure Im where
  (w h : Int)
  be : List T3
  (al de : List Int)
  no : List T3
  (as la : List Int)
def Im.row (i : Im) : List AV := [.int .i64 i.w, .int .i64 i.h, .isl 3 (slc3 i.be), .isl 1 (slcK .i64 i.al), .isl 1 (slcK .i64 i.de), .isl 3 (slc3 i.no), .isl 1 (slcK .i64 i.as), .isl 1 (slcK .i64 i.la)]
def zIm : Im := ⟨0, 0, [], [], [], [], [], []⟩
def fl3 (l : List T3) : List Int := l.flatMap fun t => [t.a, t.b, t.c]
theorem fl3_len (l : List T3) : (fl3 l).length = 3 * l.length := by
  induction l with
  | nil => rfl
  | cons x r ih => simp [fl3] at ih ⊢; omega
theorem fl3_succ {l : List T3} {k : Nat} {x : T3} (h : l[k]? = some x) : fl3 (l.take (k + 1)) = fl3 (l.take k) ++ [x.a, x.b, x.c] := by
  unfold fl3; rw [take_succ_get h]; simp
def nmB : List UInt8 := [66, 69, 65, 85, 84, 89]
def nmA : List UInt8 := [65, 76, 80, 72, 65]
def nmD : List UInt8 := [68, 69, 80, 84, 72]
def nmN : List UInt8 := [78, 79, 82, 77, 65, 76]
def nmS : List UInt8 := [65, 83, 83, 69, 84]
def nmL : List UInt8 := [76, 65, 66, 69, 76]
def Im.p0 (i : Im) : Pl := ⟨i.w, i.h, 3, nmB, fl3 i.be⟩
def Im.p1 (i : Im) : Pl := ⟨i.w, i.h, 1, nmA, i.al⟩
def Im.p2 (i : Im) : Pl := ⟨i.w, i.h, 1, nmD, i.de⟩
def Im.p3 (i : Im) : Pl := ⟨i.w, i.h, 3, nmN, fl3 i.no⟩
def Im.p4 (i : Im) : Pl := ⟨i.w, i.h, 1, nmS, i.as⟩
def Im.p5 (i : Im) : Pl := ⟨i.w, i.h, 1, nmL, i.la⟩
def Im.pls (i : Im) : List Pl := [i.p0, i.p1, i.p2, i.p3, i.p4, i.p5]
def ichk (i : Im) : Int :=
  if pchk i.p0 ≠ 0 then pchk i.p0 else if pchk i.p1 ≠ 0 then pchk i.p1 else if pchk i.p2 ≠ 0 then pchk i.p2
  else if pchk i.p3 ≠ 0 then pchk i.p3 else if pchk i.p4 ≠ 0 then pchk i.p4 else if pchk i.p5 ≠ 0 then pchk i.p5 else 0
def planes (i : Im) : List Pl × Int := if ichk i ≠ 0 then ([], ichk i) else (i.pls, 0)
theorem ichk_all {i : Im} (h : ichk i = 0) : pchk i.p0 = 0 ∧ pchk i.p1 = 0 ∧ pchk i.p2 = 0 ∧ pchk i.p3 = 0 ∧ pchk i.p4 = 0 ∧ pchk i.p5 = 0 := by
  unfold ichk at h
  repeat' split at h
  all_goals first | (exact absurd h (by assumption)) | skip
  rename_i h0 h1 h2 h3 h4 h5
  simp only [Decidable.not_not] at h0 h1 h2 h3 h4 h5
  exact ⟨h0, h1, h2, h3, h4, h5⟩
theorem ichk_of {i : Im} (h : pchk i.p0 = 0 ∧ pchk i.p1 = 0 ∧ pchk i.p2 = 0 ∧ pchk i.p3 = 0 ∧ pchk i.p4 = 0 ∧ pchk i.p5 = 0) : ichk i = 0 := by
  obtain ⟨h0, h1, h2, h3, h4, h5⟩ := h
  unfold ichk
  rw [if_neg (by simp [h0]), if_neg (by simp [h1]), if_neg (by simp [h2]), if_neg (by simp [h3]), if_neg (by simp [h4]), if_neg (by simp [h5])]
def T3.in16 (t : T3) : Prop := (0 ≤ t.a ∧ t.a ≤ 65535) ∧ (0 ≤ t.b ∧ t.b ≤ 65535) ∧ (0 ≤ t.c ∧ t.c ≤ 65535)
structure Im.Ok (i : Im) : Prop where
  w : 1 ≤ i.w ∧ i.w ≤ 64
  h : 1 ≤ i.h ∧ i.h ≤ 64
  be : (i.be.length : Int) = i.w * i.h
  al : (i.al.length : Int) = i.w * i.h
  de : (i.de.length : Int) = i.w * i.h
  no : (i.no.length : Int) = i.w * i.h
  as : (i.as.length : Int) = i.w * i.h
  la : (i.la.length : Int) = i.w * i.h
  vbe : ∀ t ∈ i.be, t.in16
  val : ∀ x ∈ i.al, 0 ≤ x ∧ x ≤ 65535
  vde : ∀ x ∈ i.de, 0 ≤ x ∧ x ≤ 65535
  vno : ∀ t ∈ i.no, t.in16
  vas : ∀ x ∈ i.as, 0 ≤ x ∧ x ≤ 65535
  vla : ∀ x ∈ i.la, 0 ≤ x ∧ x ≤ 65535
theorem pchk_iff (p : Pl) : pchk p = 0 ↔ (1 ≤ p.w ∧ p.w ≤ 64) ∧ (1 ≤ p.h ∧ p.h ≤ 64) ∧ (1 ≤ p.deep ∧ p.deep ≤ 4) ∧ named p.name = true ∧ (p.data.length : Int) = p.w * p.h * p.deep ∧ ∀ x ∈ p.data, 0 ≤ x ∧ x ≤ 65535 := by
  unfold pchk
  constructor
  · intro h
    split at h
    · cases h
    · split at h
      · cases h
      · split at h
        · cases h
        · rename_i h1 h2 h3
          simp only [Bool.not_eq_false, List.all_eq_true, Bool.and_eq_true, decide_eq_true_eq] at h3
          refine ⟨by omega, by omega, by omega, ?_, by omega, h3⟩
          cases hn : named p.name with
          | true => rfl
          | false => exact absurd (.inl hn) h2
  · rintro ⟨h1, h2, h3, h4, h5, h6⟩
    rw [if_neg (by omega), if_neg (by rw [h4]; simp; exact h5), if_neg]
    simp only [Bool.not_eq_false, List.all_eq_true, Bool.and_eq_true, decide_eq_true_eq]
    exact h6
theorem Im.Ok.few {i : Im} (h : i.Ok) : 1 ≤ i.w * i.h ∧ i.w * i.h ≤ 4096 :=
  ⟨by have := Int.mul_le_mul h.w.1 h.h.1 (by omega) (by have := h.w; omega); omega, by have := Int.mul_le_mul h.w.2 h.h.2 (by have := h.h; omega) (by omega); omega⟩
end Go.UM

namespace Go.UM
open Go.AM
set_option maxRecDepth 4000
theorem eq8_c {R : Env} (h : N47 R) (a b : List UInt8) : R.Pc 47 [.isl 1 (slc8 a), .isl 1 (slc8 b)] (.bool (a == b)) :=
  h.o47.enter 60 rfl fun X bb hfit hp => by
    refine sh ?_
    exact rT
end Go.UM

namespace Go.UM
open Go.AM
set_option maxRecDepth 4000
def decN (n : Nat) : List UInt8 := if n < 10 then [UInt8.ofNat (48 + n)] else [UInt8.ofNat (48 + n / 10), UInt8.ofNat (48 + n % 10)]
def dec (n : Int) : List UInt8 := decN n.toNat
theorem small1 : ∀ n : Fin 10, List.drop n.val (List.take (n.val + 1) ([48, 49, 50, 51, 52, 53, 54, 55, 56, 57, 97, 98, 99, 100, 101, 102, 103, 104, 105, 106, 107, 108, 109, 110, 111, 112, 113, 114, 115, 116, 117, 118, 119, 120, 121, 122] : List UInt8)) = decN n.val := by decide
def smalls : List UInt8 := [48, 48, 48, 49, 48, 50, 48, 51, 48, 52, 48, 53, 48, 54, 48, 55, 48, 56, 48, 57, 49, 48, 49, 49, 49, 50, 49, 51, 49, 52, 49, 53, 49, 54, 49, 55, 49, 56, 49, 57, 50, 48, 50, 49, 50, 50, 50, 51, 50, 52, 50, 53, 50, 54, 50, 55, 50, 56, 50, 57, 51, 48, 51, 49, 51, 50, 51, 51, 51, 52, 51, 53, 51, 54, 51, 55, 51, 56, 51, 57, 52, 48, 52, 49, 52, 50, 52, 51, 52, 52, 52, 53, 52, 54, 52, 55, 52, 56, 52, 57, 53, 48, 53, 49, 53, 50, 53, 51, 53, 52, 53, 53, 53, 54, 53, 55, 53, 56, 53, 57, 54, 48, 54, 49, 54, 50, 54, 51, 54, 52, 54, 53, 54, 54, 54, 55, 54, 56, 54, 57, 55, 48, 55, 49, 55, 50, 55, 51, 55, 52, 55, 53, 55, 54, 55, 55, 55, 56, 55, 57, 56, 48, 56, 49, 56, 50, 56, 51, 56, 52, 56, 53, 56, 54, 56, 55, 56, 56, 56, 57, 57, 48, 57, 49, 57, 50, 57, 51, 57, 52, 57, 53, 57, 54, 57, 55, 57, 56, 57, 57]
theorem small2 : ∀ n : Fin 100, 10 ≤ n.val → List.drop (n.val * 2) (List.take (n.val * 2 + 2) smalls) = decN n.val := by decide
theorem small_c {R : Env} (h : N400 R) (n : Int) (h0 : 0 ≤ n) (h1 : n < 100) : R.Pc 400 [.int .i64 n] (.str (dec n)) :=
  h.o400.enter 60 rfl fun X bb hfit hp => by
    refine sh ?_
    refine cS (fun h1 => ?_) (fun h1 => ?_)
    · obtain ⟨k, rfl⟩ : ∃ k : Nat, n = k := ⟨n.toNat, by omega⟩
      refine sh ?_
      refine asub_eq (by exact small1 ⟨k, by omega⟩) ?_
      refine sh ?_
      exact rT
    · obtain ⟨k, rfl⟩ : ∃ k : Nat, n = k := ⟨n.toNat, by omega⟩
      refine sh ?_
      refine asub_eq (by exact small2 ⟨k, by omega⟩ (by simp at h1 ⊢; omega)) ?_
      refine sh ?_
      exact rT
theorem fmt_c {R : Env} (h : N399 R) (n : Int) (h0 : 0 ≤ n) (h1 : n < 100) : R.Pc 399 [.int .i64 n, .int .i64 10] (.str (dec n)) :=
  h.o399.enter 60 rfl fun X bb hfit hp => by
    refine sh ?_
    refine acnd_t (by decide) ?_
    refine sh ?_
    refine acnd_t (by simp; omega) ?_
    refine sh ?_
    refine acnd_t (by simp; omega) ?_
    refine sh ?_
    refine ICall.pure h.n400.o400.hb (small_c h.n400 n h0 h1) rfl ?_
    refine sh ?_
    exact rT
theorem itoa0_c {R : Env} (h : N396 R) (n : Int) (h0 : 0 ≤ n) (h1 : n < 100) : R.Pc 396 [.int .i64 n] (.str (dec n)) :=
  h.o396.enter 60 rfl fun X bb hfit hp => by
    refine sh ?_
    refine ICall.pure h.n399.o399.hb (fmt_c h.n399 n h0 h1) rfl ?_
    refine sh ?_
    exact rT
theorem itoa_c {R : Env} (h : N393 R) (n : Int) (h0 : 0 ≤ n) (h1 : n < 100) : R.Pc 393 [.int .i64 n] (.str (dec n)) :=
  h.o393.enter 60 rfl fun X bb hfit hp => by
    refine sh ?_
    refine ICall.pure h.n396.o396.hb (itoa0_c h.n396 n h0 h1) rfl ?_
    refine sh ?_
    exact rT
def hd (p : Pl) : List UInt8 := [80, 55, 10, 87, 73, 68, 84, 72, 32] ++ dec p.w ++ [10, 72, 69, 73, 71, 72, 84, 32] ++ dec p.h ++ [10, 68, 69, 80, 84, 72, 32] ++ dec p.deep ++ [10, 77, 65, 88, 86, 65, 76, 32, 54, 53, 53, 51, 53, 10, 84, 85, 80, 76, 84, 89, 80, 69, 32] ++ p.name ++ [10, 69, 78, 68, 72, 68, 82, 10]
structure Pl.In (p : Pl) : Prop where
  w : 1 ≤ p.w ∧ p.w ≤ 64
  h : 1 ≤ p.h ∧ p.h ≤ 64
  d : 1 ≤ p.deep ∧ p.deep ≤ 4
  n : p.name.length ≤ 1000
theorem dec_len (n : Int) : (dec n).length ≤ 2 := by unfold dec decN; split <;> simp
theorem head_c {R : Env} (h : N381 R) (p : Pl) (hi : p.In) : R.Pc 381 [.agg p.row] (.str (hd p)) :=
  h.o381.enter 100 rfl fun X bb hfit hp => by
    obtain ⟨⟨w0, w1⟩, ⟨h0, h1⟩, ⟨d0, d1⟩, hn⟩ := hi
    have l1 := dec_len p.w
    have l2 := dec_len p.h
    have l3 := dec_len p.deep
    refine sh ?_
    refine ICall.pure h.n393.o393.hb (itoa_c h.n393 p.w (by omega) (by omega)) rfl ?_
    repeat (refine st ?_; refine ⟨by simp only [List.length_append, List.length_cons, List.length_nil]; omega, ?_⟩)
    refine sh ?_
    refine ICall.pure h.n393.o393.hb (itoa_c h.n393 p.h (by omega) (by omega)) rfl ?_
    repeat (refine st ?_; refine ⟨by simp only [List.length_append, List.length_cons, List.length_nil]; omega, ?_⟩)
    refine sh ?_
    refine ICall.pure h.n393.o393.hb (itoa_c h.n393 p.deep (by omega) (by omega)) rfl ?_
    repeat (refine st ?_; refine ⟨by simp only [List.length_append, List.length_cons, List.length_nil]; omega, ?_⟩)
    refine sh ?_
    exact rT
def enc2 (l : List Int) : List UInt8 := l.flatMap fun x => [u8 (x / 256), u8 x]
theorem enc2_len (l : List Int) : (enc2 l).length = 2 * l.length := by
  induction l with
  | nil => rfl
  | cons x r ih => simp [enc2] at ih ⊢; omega
theorem enc2_succ {l : List Int} {k : Nat} {x : Int} (h : l[k]? = some x) : enc2 (l.take (k + 1)) = enc2 (l.take k) ++ [u8 (x / 256), u8 x] := by
  rw [take_succ_get h]; simp [enc2]
def penc (p : Pl) : List UInt8 × Int := if pchk p ≠ 0 then ([], pchk p) else (hd p ++ enc2 p.data, 0)
theorem named_le {s : List UInt8} (h : named s = true) : s.length ≤ 16 := by simp [named] at h; omega
theorem pchk_in {p : Pl} (h : pchk p = 0) : p.In := by
  obtain ⟨h1, h2, h3, h4, _⟩ := (pchk_iff p).1 h
  have := named_le h4
  exact ⟨h1, h2, h3, by omega⟩
set_option maxHeartbeats 1000000 in
theorem pencode_c {R : Env} (h : N365 R) (p : Pl) (hn : p.name.length ≤ 1073741824) (hl : p.data.length ≤ 100000) : R.Pc 365 [.agg p.row] (.tup [.isl 1 (slc8 (penc p).1), .int .i64 (penc p).2]) :=
  h.o365.enter 200 rfl fun X bb hfit hp => by
    refine sh ?_
    refine ICall.pure h.n153.o153.hb (pcheck_c h.n153 p hn) rfl ?_
    generalize hq : penc p = q
    refine sh ?_
    refine cS (fun h1 => ?_) (fun h1 => ?_)
    · rw [penc, if_pos (by simpa using h1)] at hq
      subst hq
      refine sh ?_
      exact rT
    · have ok : pchk p = 0 := by simpa using h1
      rw [penc, if_neg (by simpa using h1)] at hq
      subst hq
      have hpi := pchk_in ok
      refine sh ?_
      refine ICall.pure h.n381.o381.hb (head_c h.n381 p hpi) rfl ?_
      have hdl : (hd p).length ≤ 2000 := by
        have l1 := dec_len p.w
        have l2 := dec_len p.h
        have l3 := dec_len p.deep
        have := hpi.n
        simp [hd]; omega
      have hdin := ((pchk_iff p).1 ok).2.2.2.2.2
      generalize hd p = H at hdl ⊢
      refine sh ?_
      refine ILoop.inv 200 (fun i : Nat => i ≤ p.data.length) (fun i => ⟨[(5, .osl 1 (H ++ enc2 (p.data.take i)).length), (17, .isl 1 (slcK .i64 p.data)), (18, .int .i64 p.data.length), (19, .int .i64 i)], [(1, .arr (R.ty 4) 1 (slc8 (H ++ enc2 (p.data.take i))))], 2⟩) (fun i => p.data.length - i) (0) ?_ ⟨⟨_, hp, rfl⟩, ?_, ?_⟩ ?_
      · exact Nat.zero_le _
      · all_goals repeat' (first | exact True.intro | refine And.intro ?_ ?_ | (intro _u; clear _u) | (with_reducible first | exact DnLe.fg | refine eM ?_ ?_ | refine eF ?_ ?_ ?_ | refine eN ?_ | refine eL ?_ ?_ ?_ | refine eA ?_ ?_ | refine IWk.mk ⟨_, hp, rfl⟩ ?_ ?_) | refine IWk.mk ⟨_, hp, rfl⟩ ?_ ?_)
        all_goals try first | with_reducible rfl | omega | exact .inl (by decide) | (simp; done) | rfl
        simp [enc2]
      · all_goals repeat' (first | exact True.intro | refine And.intro ?_ ?_ | (intro _u; clear _u) | (with_reducible first | exact DnLe.fg | refine eM ?_ ?_ | refine eF ?_ ?_ ?_ | refine eN ?_ | refine eL ?_ ?_ ?_ | refine eA ?_ ?_ | refine IWk.mk ⟨_, hp, rfl⟩ ?_ ?_) | refine IWk.mk ⟨_, hp, rfl⟩ ?_ ?_)
        all_goals try first | with_reducible rfl | omega | exact .inl (by decide) | (simp; done) | rfl
        simp [enc2, slc8]
      · intro i hi
        dsimp only
        refine sh ?_
        refine cS (fun h2 => ?_) (fun h2 => ?_)
        · obtain ⟨y, hy⟩ : ∃ u_, p.data[i]? = some u_ := ⟨_, List.getElem?_eq_getElem (by first | omega | (simp <;> omega))⟩
          refine sh ?_
          refine eget_map hy ?_
          have hyin := hdin y (List.mem_of_getElem? hy)
          have hlen := enc2_len (p.data.take i)
          simp only [List.length_take] at hlen
          refine sh ?_
          refine iwr_any ?_
          refine sh ?_
          refine iwr_any ?_
          refine sh ?_
          refine nX (i + 1) ?_ ?_ ⟨_, hp, rfl⟩ ?_ ?_
          · omega
          · omega
          · all_goals repeat' (first | exact True.intro | refine And.intro ?_ ?_ | (intro _u; clear _u) | (with_reducible first | exact DnLe.fg | refine eM ?_ ?_ | refine eF ?_ ?_ ?_ | refine eN ?_ | refine eL ?_ ?_ ?_ | refine eA ?_ ?_ | refine IWk.mk ⟨_, hp, rfl⟩ ?_ ?_) | refine IWk.mk ⟨_, hp, rfl⟩ ?_ ?_)
            all_goals try first | with_reducible rfl | omega | exact .inl (by decide) | (simp; done) | rfl
            rw [enc2_succ hy]; simp
          · all_goals repeat' (first | exact True.intro | refine And.intro ?_ ?_ | (intro _u; clear _u) | (with_reducible first | exact DnLe.fg | refine eM ?_ ?_ | refine eF ?_ ?_ ?_ | refine eN ?_ | refine eL ?_ ?_ ?_ | refine eA ?_ ?_ | refine IWk.mk ⟨_, hp, rfl⟩ ?_ ?_) | refine IWk.mk ⟨_, hp, rfl⟩ ?_ ?_)
            all_goals try first | with_reducible rfl | omega | exact .inl (by decide) | (simp; done) | rfl
            rw [enc2_succ hy]; simp [slc8]
            all_goals (rw [wr_u8, shr_eq hyin.1]; rfl)
        · rw [List.take_of_length_le (by omega)]
          refine sh ?_
          exact rT
theorem dig1 : ∀ n : Fin 10, List.drop n.val (List.take (n.val + 1) ([48, 49, 50, 51, 52, 53, 54, 55, 56, 57] : List UInt8)) = [UInt8.ofNat (48 + n.val)] := by decide
theorem rnum1_c {R : Env} (h : N394 R) (n : Int) (h0 : 0 ≤ n) (h1 : n < 10) : R.Pc 394 [.int .i64 n] (.str (dec n)) :=
  h.o394.enter 60 rfl fun X bb hfit hp => by
    refine sh ?_
    refine acnd_t (by simp; omega) ?_
    obtain ⟨k, rfl⟩ : ∃ k : Nat, n = k := ⟨n.toNat, by omega⟩
    refine sh ?_
    refine asub_eq (by exact dig1 ⟨k, by omega⟩) ?_
    refine sh ?_
    refine rT ?_
    all_goals repeat' (first | exact True.intro | refine And.intro ?_ ?_ | (intro _u; clear _u) | (with_reducible first | exact DnLe.fg | refine eM ?_ ?_ | refine eF ?_ ?_ ?_ | refine eN ?_ | refine eL ?_ ?_ ?_ | refine eA ?_ ?_ | refine IWk.mk ⟨_, hp, rfl⟩ ?_ ?_) | refine IWk.mk ⟨_, hp, rfl⟩ ?_ ?_)
    all_goals try first | with_reducible rfl | omega | exact .inl (by decide) | (simp; done) | rfl
    simp [dec, decN]; omega
theorem rnum_c {R : Env} (h : N394 R) (n : Int) (h0 : 0 ≤ n) (h1 : n < 100) : R.Pc 394 [.int .i64 n] (.str (dec n)) := by
  by_cases hs : n < 10
  · exact rnum1_c h n h0 hs
  exact h.o394.enter 60 rfl fun X bb hfit hp => by
    refine sh ?_
    refine acnd_f (by simp; omega) ?_
    obtain ⟨k, rfl⟩ : ∃ k : Nat, n = k := ⟨n.toNat, by omega⟩
    have e1 : wr .i64 ((k : Int).tdiv 10) = ((k / 10 : Nat) : Int) := by
      rw [Int.tdiv_eq_ediv_of_nonneg (by omega)]; exact wr_in (k := .i64) (by simp only [inI]; omega)
    have e2 : (k : Int).tmod 10 = ((k % 10 : Nat) : Int) := by rw [Int.tmod_eq_emod_of_nonneg (by omega)]; rfl
    refine sh ?_
    refine iwr_eq e1 ?_
    refine sh ?_
    refine ICall.pure h.o394.hb (rnum1_c h (k / 10 : Nat) (by omega) (by omega)) rfl ?_
    refine st ?_
    rw [e2]
    refine sh ?_
    refine asub_eq (by exact dig1 ⟨k % 10, by omega⟩) ?_
    have l1 := dec_len (k / 10 : Nat)
    refine sh ?_
    refine ⟨by simp only [List.length_append, List.length_cons, List.length_nil]; omega, ?_⟩
    refine sh ?_
    refine rT ?_
    all_goals repeat' (first | exact True.intro | refine And.intro ?_ ?_ | (intro _u; clear _u) | (with_reducible first | exact DnLe.fg | refine eM ?_ ?_ | refine eF ?_ ?_ ?_ | refine eN ?_ | refine eL ?_ ?_ ?_ | refine eA ?_ ?_ | refine IWk.mk ⟨_, hp, rfl⟩ ?_ ?_) | refine IWk.mk ⟨_, hp, rfl⟩ ?_ ?_)
    all_goals try first | with_reducible rfl | omega | exact .inl (by decide) | (simp; done) | rfl
    have h10 : k / 10 < 10 := by omega
    simp only [dec, decN, Int.toNat_natCast, if_pos h10, if_neg (show ¬ k < 10 by omega)]; rfl
theorem rhead_c {R : Env} (h : N382 R) (p : Pl) (hi : p.In) : R.Pc 382 [.agg p.row] (.str (hd p)) :=
  h.o382.enter 100 rfl fun X bb hfit hp => by
    obtain ⟨⟨w0, w1⟩, ⟨h0, h1⟩, ⟨d0, d1⟩, hn⟩ := hi
    have l1 := dec_len p.w
    have l2 := dec_len p.h
    have l3 := dec_len p.deep
    refine sh ?_
    refine ICall.pure h.n394.o394.hb (rnum_c h.n394 p.w (by omega) (by omega)) rfl ?_
    repeat (refine st ?_; refine ⟨by simp only [List.length_append, List.length_cons, List.length_nil]; omega, ?_⟩)
    refine sh ?_
    refine ICall.pure h.n394.o394.hb (rnum_c h.n394 p.h (by omega) (by omega)) rfl ?_
    repeat (refine st ?_; refine ⟨by simp only [List.length_append, List.length_cons, List.length_nil]; omega, ?_⟩)
    refine sh ?_
    refine ICall.pure h.n394.o394.hb (rnum_c h.n394 p.deep (by omega) (by omega)) rfl ?_
    repeat (refine st ?_; refine ⟨by simp only [List.length_append, List.length_cons, List.length_nil]; omega, ?_⟩)
    refine sh ?_
    exact rT
set_option maxHeartbeats 1000000 in
theorem rpencode_c {R : Env} (h : N366 R) (p : Pl) (hn : p.name.length ≤ 1073741824) (hl : p.data.length ≤ 100000) : R.Pc 366 [.agg p.row] (.tup [.isl 1 (slc8 (penc p).1), .int .i64 (penc p).2]) :=
  h.o366.enter 200 rfl fun X bb hfit hp => by
    refine sh ?_
    refine ICall.pure h.n162.o162.hb (rpcheck_c h.n162 p hn) rfl ?_
    generalize hq : penc p = q
    refine sh ?_
    refine cS (fun h1 => ?_) (fun h1 => ?_)
    · rw [penc, if_pos (by simpa using h1)] at hq
      subst hq
      refine sh ?_
      exact rT
    · have ok : pchk p = 0 := by simpa using h1
      rw [penc, if_neg (by simpa using h1)] at hq
      subst hq
      have hpi := pchk_in ok
      refine sh ?_
      refine ICall.pure h.n382.o382.hb (rhead_c h.n382 p hpi) rfl ?_
      have hdl : (hd p).length ≤ 2000 := by
        have l1 := dec_len p.w
        have l2 := dec_len p.h
        have l3 := dec_len p.deep
        have := hpi.n
        simp [hd]; omega
      have hdin := ((pchk_iff p).1 ok).2.2.2.2.2
      generalize hd p = H at hdl ⊢
      refine sh ?_
      refine ILoop.inv 200 (fun i : Nat => i ≤ p.data.length) (fun i => ⟨[(1, .loc 0 1 0 0), (5, .osl 1 (H ++ enc2 (p.data.take i)).length), (6, .int .i64 i)], [(1, .arr (R.ty 4) 1 (slc8 (H ++ enc2 (p.data.take i)))), (0, .var (R.ty 20) p.row)], 2⟩) (fun i => p.data.length - i) (0) ?_ ⟨⟨_, hp, rfl⟩, ?_, ?_⟩ ?_
      · exact Nat.zero_le _
      · all_goals repeat' (first | exact True.intro | refine And.intro ?_ ?_ | (intro _u; clear _u) | (with_reducible first | exact DnLe.fg | refine eM ?_ ?_ | refine eF ?_ ?_ ?_ | refine eN ?_ | refine eL ?_ ?_ ?_ | refine eA ?_ ?_ | refine IWk.mk ⟨_, hp, rfl⟩ ?_ ?_) | refine IWk.mk ⟨_, hp, rfl⟩ ?_ ?_)
        all_goals try first | with_reducible rfl | omega | exact .inl (by decide) | (simp; done) | rfl
        simp [enc2]
      · all_goals repeat' (first | exact True.intro | refine And.intro ?_ ?_ | (intro _u; clear _u) | (with_reducible first | exact DnLe.fg | refine eM ?_ ?_ | refine eF ?_ ?_ ?_ | refine eN ?_ | refine eL ?_ ?_ ?_ | refine eA ?_ ?_ | refine IWk.mk ⟨_, hp, rfl⟩ ?_ ?_) | refine IWk.mk ⟨_, hp, rfl⟩ ?_ ?_)
        all_goals try first | with_reducible rfl | omega | exact .inl (by decide) | (simp; done) | rfl
        simp [enc2, slc8]
      · intro i hi
        dsimp only
        refine sh ?_
        refine cS (fun h2 => ?_) (fun h2 => ?_)
        · obtain ⟨y, hy⟩ : ∃ u_, p.data[i]? = some u_ := ⟨_, List.getElem?_eq_getElem (by first | omega | (simp <;> omega))⟩
          refine sh ?_
          refine eget_map hy ?_
          have hyin := hdin y (List.mem_of_getElem? hy)
          have hlen := enc2_len (p.data.take i)
          simp only [List.length_take] at hlen
          have e1 : wr .i64 (y.tdiv 256) = y / 256 := by
            rw [Int.tdiv_eq_ediv_of_nonneg (by omega)]; exact wr_in (k := .i64) (by simp only [inI]; omega)
          refine sh ?_
          refine iwr_eq e1 ?_
          refine sh ?_
          refine eget_map hy ?_
          refine st ?_
          rw [Int.tmod_eq_emod_of_nonneg hyin.1]
          refine sh ?_
          refine nX (i + 1) ?_ ?_ ⟨_, hp, rfl⟩ ?_ ?_
          · omega
          · omega
          · all_goals repeat' (first | exact True.intro | refine And.intro ?_ ?_ | (intro _u; clear _u) | (with_reducible first | exact DnLe.fg | refine eM ?_ ?_ | refine eF ?_ ?_ ?_ | refine eN ?_ | refine eL ?_ ?_ ?_ | refine eA ?_ ?_ | refine IWk.mk ⟨_, hp, rfl⟩ ?_ ?_) | refine IWk.mk ⟨_, hp, rfl⟩ ?_ ?_)
            all_goals try first | with_reducible rfl | omega | exact .inl (by decide) | (simp; done) | rfl
            rw [enc2_succ hy]; simp
          · all_goals repeat' (first | exact True.intro | refine And.intro ?_ ?_ | (intro _u; clear _u) | (with_reducible first | exact DnLe.fg | refine eM ?_ ?_ | refine eF ?_ ?_ ?_ | refine eN ?_ | refine eL ?_ ?_ ?_ | refine eA ?_ ?_ | refine IWk.mk ⟨_, hp, rfl⟩ ?_ ?_) | refine IWk.mk ⟨_, hp, rfl⟩ ?_ ?_)
            all_goals try first | with_reducible rfl | omega | exact .inl (by decide) | (simp; done) | rfl
            rw [enc2_succ hy]; simp [slc8]
            all_goals exact ⟨(u8_in (by omega)).symm, by rw [← u8_mod, u8_in (by omega)]⟩
        · rw [List.take_of_length_le (by omega)]
          refine sh ?_
          exact rT
end Go.UM

namespace Go.UM
open Go.AM
set_option maxRecDepth 4000
end Go.UM

namespace Go.UM
open Go.AM
set_option maxRecDepth 4000
theorem ixb_row {fn : Func} (hn : fn.name = "internal/bytealg.IndexByte") (ho : fn.origin = "") : (fn.name == "runtime.NumGoroutine") = false ∧ Extern.findNext fn = none ∧ Extern.find fn = some Extern.BytealgIndexByte.indexByte := by
  obtain ⟨name, origin⟩ := fn
  simp only at hn ho
  subst hn; subst ho
  exact ⟨by kernel_rfl, by kernel_rfl, by kernel_rfl⟩
theorem bytesOf_nat (s : List UInt8) : Lib.bytesOf (s.map fun c => (c.toNat : Int)) = s := by
  induction s with
  | nil => rfl
  | cons c r ih => simpa [Lib.bytesOf] using ih
theorem ixb_x {R : Env} (h : R.Xn 398 "internal/bytealg.IndexByte") (s : List UInt8) (c : UInt8) :
    XCalls R.P (R.ft 398) [.isl 1 (slc8 s), .int .u8 c.toNat] (.int .i64 (Lib.indexByte s c)) := by
  obtain ⟨fn, hf, hn, ho, hbd⟩ := h.fn
  obtain ⟨r1, r2, r3⟩ := ixb_row hn ho
  intro ρ L I N w vs hv
  obtain ⟨hl, hr⟩ := hv
  obtain ⟨v0, v1, rfl⟩ : ∃ v0 v1, vs = [v0, v1] := by
    match vs, hl with
    | [a, b], _ => exact ⟨a, b, rfl⟩
  have e0 : Rep ρ L I w N (.isl 1 (slc8 s)) v0 := hr 0 (by simp)
  have e1 : Rep ρ L I w N (.int .u8 c.toNat) v1 := hr 1 (by simp)
  cases e1
  have hc : ((c.toNat : Int)).toNat.toUInt8 = c := by simp
  have main : (Extern.BytealgIndexByte.indexByte #[v0, .int .u8 c.toNat]).run R.P w = .ok (.int .i64 (Lib.indexByte s c)) w := by
    generalize hes : slc8 s = es at e0
    cases e0 with
    | islNil sz a cap _ =>
      have : s = [] := by simpa [slc8] using hes
      subst this
      cases a with
      | none => exact Lib.run_indexByteNil w 0 cap _
      | some a =>
        obtain ⟨b, o, f⟩ := a
        exact (Lib.run_indexByteNil (P := R.P) w 0 cap (c.toNat : Int))
    | isl sz _ b o cap cf hl' hc' hI hs h1 hcell hr' =>
      subst hes
      have := Lib.run_indexByteSlice (P := R.P) w b o (slc8 s).length cap (s.map fun c => (c.toNat : Int)) (by simp) (fun i hi => by
        have hi' : i < s.length := by simpa using hi
        have k1 := hcell i 0 hi (by omega)
        have k2 := hr' i 0 hi (by omega)
        rw [show ((slc8 s).getD i []).getD 0 .bad = .int .u8 s[i].toNat by simp [slc8, hi']] at k2
        generalize cf i 0 = v at k1 k2
        cases k2
        rw [show o + i = o + i * 1 + 0 by omega, k1]
        simp [hi']) (c.toNat : Int)
      rw [this, bytesOf_nat, hc]
  exact ⟨_, by rw [run_callFunc_extern hf r1 hbd r2 r3, show ([v0, Value.int .u8 (c.toNat : Int)].toArray) = #[v0, .int .u8 c.toNat] from rfl, main]; rfl, Rep.int _ _⟩
theorem ixb_c {R : Env} (h : N397 R) (s : List UInt8) (c : UInt8) : R.Pc 397 [.isl 1 (slc8 s), .int .u8 c.toNat] (.int .i64 (Lib.indexByte s c)) :=
  h.o397.enter 60 rfl fun X bb hfit hp => by
    refine sh ?_
    refine ICallX.mk ⟨_, ixb_x h.n398.x398 s c, ?_⟩
    refine sh ?_
    exact rT
def cut : List UInt8 → Option (List UInt8 × List UInt8)
  | [] => none
  | c :: l => if c = 10 then some ([], l) else (cut l).map fun x => (c :: x.1, x.2)
theorem cut_ix (s : List UInt8) : match cut s with
    | none => Lib.indexByte s 10 = -1
    | some (a, r) => ∃ n : Nat, Lib.indexByte s 10 = n ∧ n < s.length ∧ s.take n = a ∧ s.drop (n + 1) = r := by
  induction s with
  | nil => rfl
  | cons c l ih =>
    unfold cut Lib.indexByte
    by_cases hc : c = 10
    · subst hc
      exact ⟨0, rfl, by simp, rfl, rfl⟩
    · have e1 : (c == 10) = false := by simpa using hc
      rw [if_neg hc, e1]
      simp only [Bool.false_eq_true, if_false]
      cases hq : cut l with
      | none => rw [hq] at ih; simp only [Option.map_none]; rw [ih]; rfl
      | some x =>
        obtain ⟨a, r⟩ := x
        rw [hq] at ih
        obtain ⟨n, h1, h2, h3, h4⟩ := ih
        simp only [Option.map_some]
        refine ⟨n + 1, ?_, by simp <;> omega, by simp [h3], by simpa using h4⟩
        rw [h1]
        have : ((n : Int) == -1) = false := by simp <;> omega
        rw [this]; simp
theorem cut_len {s a r : List UInt8} (h : cut s = some (a, r)) : s = a ++ 10 :: r ∧ ∀ c ∈ a, c ≠ 10 := by
  induction s generalizing a with
  | nil => simp [cut] at h
  | cons c l ih =>
    unfold cut at h
    by_cases hc : c = 10
    · rw [if_pos hc] at h
      simp only [Option.some.injEq, Prod.mk.injEq] at h
      obtain ⟨rfl, rfl⟩ := h
      exact ⟨by rw [hc]; rfl, by simp⟩
    · rw [if_neg hc] at h
      cases hq : cut l with
      | none => rw [hq] at h; simp at h
      | some x =>
        obtain ⟨a', r'⟩ := x
        rw [hq] at h
        simp only [Option.map_some, Option.some.injEq, Prod.mk.injEq] at h
        obtain ⟨rfl, rfl⟩ := h
        obtain ⟨h1, h2⟩ := ih hq
        refine ⟨by rw [h1]; rfl, fun d hd => ?_⟩
        rcases List.mem_cons.1 hd with rfl | hd
        · exact hc
        · exact h2 d hd
theorem cut_of {a r : List UInt8} (h : ∀ c ∈ a, c ≠ 10) : cut (a ++ 10 :: r) = some (a, r) := by
  induction a with
  | nil => simp [cut]
  | cons c l ih =>
    rw [List.cons_append, cut, if_neg (h c (by simp)), ih (fun d hd => h d (by simp [hd]))]
    rfl
def val (l w : List UInt8) : List UInt8 × Bool :=
  if w.length + 1 < l.length ∧ l.take w.length = w ∧ l.getD w.length 0 = 32 then (l.drop (w.length + 1), true) else ([], false)
theorem value_c {R : Env} (h : N387 R) (l w : List UInt8) (hl : l.length ≤ 1073741824) (hw : w.length ≤ 1000) : R.Pc 387 [.str l, .str w] (.tup [.str (val l w).1, .bool (val l w).2]) :=
  h.o387.enter 60 rfl fun X bb hfit hp => by
    generalize hq : val l w = q
    unfold val at hq
    refine sh ?_
    refine cS (fun h1 => ?_) (fun h1 => ?_)
    · rw [if_neg (by omega)] at hq
      subst hq
      refine sh ?_
      exact rT
    · refine sh ?_
      refine aSb ?_
      refine sh ?_
      refine cS (fun h2 => ?_) (fun h2 => ?_)
      · rw [if_neg (by simp at h2; exact fun h => h2 h.2.1)] at hq
        subst hq
        refine sh ?_
        exact rT
      · refine sh ?_
        refine cS (fun h3 => ?_) (fun h3 => ?_)
        · rw [if_neg (by exact fun h => h3 (by rw [Int.toNat_natCast, h.2.2]; rfl))] at hq
          subst hq
          refine sh ?_
          exact rT
        · have e3 : l.getD w.length 0 = 32 := UInt8.toNat_inj.1 (by rw [Int.toNat_natCast] at h3; show _ = 32; omega)
          rw [if_pos ⟨by omega, by rw [Int.toNat_natCast] at h2; exact h2, e3⟩] at hq
          subst hq
          refine sh ?_
          refine aSb ?_
          refine sh ?_
          exact rT
end Go.UM

namespace Go.UM
open Go.AM
set_option maxRecDepth 4000
def dig (c : UInt8) : Bool := decide (48 ≤ c.toNat) && decide (c.toNat ≤ 57)
def numV (s : List UInt8) : Int := s.foldl (fun n c => n * 10 + ((c.toNat : Int) - 48)) 0
def numOk (s : List UInt8) : Bool := decide (s.length ≤ 4) && s.all dig && !(s.head? == some 48)
def num (s : List UInt8) : Int := if numOk s then numV s else -1
theorem numV_succ {s : List UInt8} {k : Nat} {x : UInt8} (h : s[k]? = some x) : numV (s.take (k + 1)) = numV (s.take k) * 10 + ((x.toNat : Int) - 48) := by
  rw [take_succ_get h]; simp [numV]
theorem numOk_no {s : List UInt8} {k : Nat} {x : UInt8} (h : s[k]? = some x) (hx : dig x = false ∨ 3 < k ∨ (k = 0 ∧ x = 48)) : numOk s = false := by
  have hk : k < s.length := (List.getElem?_eq_some_iff.1 h).1
  unfold numOk
  rcases hx with hx | hx | ⟨rfl, rfl⟩
  · rw [all_bad h hx]; simp
  · rw [decide_eq_false (by omega)]; simp
  · have : s.head? = some 48 := by rw [List.head?_eq_getElem?]; exact h
    rw [this]; simp
theorem numV_in : ∀ {s : List UInt8} (k : Nat), (s.take k).all dig = true → k ≤ 4 → 0 ≤ numV (s.take k) ∧ numV (s.take k) < 10 ^ k
  | s, 0, _, _ => by simp [numV]
  | s, k + 1, h, hk => by
    by_cases hl : k < s.length
    · obtain ⟨x, hx⟩ : ∃ x, s[k]? = some x := ⟨_, List.getElem?_eq_getElem hl⟩
      rw [all_take_succ hx] at h
      simp only [Bool.and_eq_true] at h
      have ih := numV_in k h.1 (by omega)
      have h2 := h.2
      simp only [dig, Bool.and_eq_true, decide_eq_true_eq] at h2
      rw [numV_succ hx, Int.pow_succ]
      omega
    · rw [List.take_of_length_le (by omega)] at h ⊢
      have e : s.take k = s := List.take_of_length_le (by omega)
      have ih := numV_in (s := s) k (by rw [e]; exact h) (by omega)
      rw [e] at ih
      rw [Int.pow_succ]
      omega
theorem number_c {R : Env} (h : N388 R) (s : List UInt8) (hs : s.length ≤ 1073741824) : R.Pc 388 [.str s] (.int .i64 (num s)) :=
  h.o388.enter 60 rfl fun X bb hfit hp => by
    refine sh ?_
    refine lPa 60 (fun k : Nat => k ≤ s.length ∧ k ≤ 4 ∧ (s.take k).all dig = true ∧ (0 < k → ¬ s.head? = some 48)) (fun k => ⟨[(3, .int .i64 (numV (s.take k))), (7, .osl 0 s.length), (8, .int .i64 s.length), (9, .int .i64 k)], [(0, .arr (R.ty 4) 1 (slc8 s))], 1⟩) (fun k => s.length - k) (0) ?_ ?_
    · exact ⟨Nat.zero_le _, by omega, by simp, by omega⟩
    · intro k hk
      obtain ⟨k1, k2, k3, k4⟩ := hk
      have hb := numV_in k k3 k2
      have hp10 : (10 : Int) ^ k ≤ 10000 := by
        have : k = 0 ∨ k = 1 ∨ k = 2 ∨ k = 3 ∨ k = 4 := by omega
        rcases this with rfl | rfl | rfl | rfl | rfl <;> decide
      dsimp only
      refine sh ?_
      refine cS (fun h1 => ?_) (fun h1 => ?_)
      · obtain ⟨x, hx⟩ : ∃ u_, s[k]? = some u_ := ⟨_, List.getElem?_eq_getElem (by first | omega | (simp <;> omega))⟩
        refine sh ?_
        refine aelt_map (by simp) hx ?_
        have hx8 := x.toNat_lt
        refine sh ?_
        refine cS (fun h2 => ?_) (fun h2 => ?_)
        · refine sh ?_
          refine rT ?_
          all_goals repeat' (first | exact True.intro | refine And.intro ?_ ?_ | (intro _u; clear _u) | (with_reducible first | exact DnLe.fg | refine eM ?_ ?_ | refine eF ?_ ?_ ?_ | refine eN ?_ | refine eL ?_ ?_ ?_ | refine eA ?_ ?_ | refine IWk.mk ⟨_, hp, rfl⟩ ?_ ?_) | refine IWk.mk ⟨_, hp, rfl⟩ ?_ ?_)
          all_goals try first | with_reducible rfl | omega | exact .inl (by decide) | (simp; done) | rfl
          unfold num; rw [numOk_no hx (.inl (by simp [dig]; omega))]; rfl
        · refine sh ?_
          refine cS (fun h3 => ?_) (fun h3 => ?_)
          · refine sh ?_
            refine rT ?_
            all_goals repeat' (first | exact True.intro | refine And.intro ?_ ?_ | (intro _u; clear _u) | (with_reducible first | exact DnLe.fg | refine eM ?_ ?_ | refine eF ?_ ?_ ?_ | refine eN ?_ | refine eL ?_ ?_ ?_ | refine eA ?_ ?_ | refine IWk.mk ⟨_, hp, rfl⟩ ?_ ?_) | refine IWk.mk ⟨_, hp, rfl⟩ ?_ ?_)
            all_goals try first | with_reducible rfl | omega | exact .inl (by decide) | (simp; done) | rfl
            unfold num; rw [numOk_no hx (.inl (by simp [dig]; omega))]; rfl
          · refine sh ?_
            refine cS (fun h4 => ?_) (fun h4 => ?_)
            · refine sh ?_
              refine rT ?_
              all_goals repeat' (first | exact True.intro | refine And.intro ?_ ?_ | (intro _u; clear _u) | (with_reducible first | exact DnLe.fg | refine eM ?_ ?_ | refine eF ?_ ?_ ?_ | refine eN ?_ | refine eL ?_ ?_ ?_ | refine eA ?_ ?_ | refine IWk.mk ⟨_, hp, rfl⟩ ?_ ?_) | refine IWk.mk ⟨_, hp, rfl⟩ ?_ ?_)
              all_goals try first | with_reducible rfl | omega | exact .inl (by decide) | (simp; done) | rfl
              unfold num; rw [numOk_no hx (.inr (.inl (by omega)))]; rfl
            · have hdx : dig x = true := by simp [dig]; omega
              refine sh ?_
              refine cS (fun h5 => ?_) (fun h5 => ?_)
              · refine sh ?_
                refine cS (fun h6 => ?_) (fun h6 => ?_)
                · refine sh ?_
                  refine rT ?_
                  all_goals repeat' (first | exact True.intro | refine And.intro ?_ ?_ | (intro _u; clear _u) | (with_reducible first | exact DnLe.fg | refine eM ?_ ?_ | refine eF ?_ ?_ ?_ | refine eN ?_ | refine eL ?_ ?_ ?_ | refine eA ?_ ?_ | refine IWk.mk ⟨_, hp, rfl⟩ ?_ ?_) | refine IWk.mk ⟨_, hp, rfl⟩ ?_ ?_)
                  all_goals try first | with_reducible rfl | omega | exact .inl (by decide) | (simp; done) | rfl
                  unfold num; rw [numOk_no hx (.inr (.inr ⟨by omega, UInt8.toNat_inj.1 (by show _ = 48; omega)⟩))]; rfl
                · refine sh ?_
                  refine nX (k + 1) ?_ ?_ ⟨_, hp, rfl⟩ ?_ ?_
                  · refine ⟨by omega, by omega, by rw [all_take_succ hx, k3, hdx]; rfl, fun _ => ?_⟩
                    have hk0 : k = 0 := by omega
                    subst hk0
                    rw [List.head?_eq_getElem?, hx]
                    intro he
                    simp only [Option.some.injEq] at he
                    subst he
                    exact h6 rfl
                  · omega
                  · all_goals repeat' (first | exact True.intro | refine And.intro ?_ ?_ | (intro _u; clear _u) | (with_reducible first | exact DnLe.fg | refine eM ?_ ?_ | refine eF ?_ ?_ ?_ | refine eN ?_ | refine eL ?_ ?_ ?_ | refine eA ?_ ?_ | refine IWk.mk ⟨_, hp, rfl⟩ ?_ ?_) | refine IWk.mk ⟨_, hp, rfl⟩ ?_ ?_)
                    all_goals try first | with_reducible rfl | omega | exact .inl (by decide) | (simp; done) | rfl
                    all_goals (rw [numV_succ hx]; try omega)
                  · all_goals repeat' (first | exact True.intro | refine And.intro ?_ ?_ | (intro _u; clear _u) | (with_reducible first | exact DnLe.fg | refine eM ?_ ?_ | refine eF ?_ ?_ ?_ | refine eN ?_ | refine eL ?_ ?_ ?_ | refine eA ?_ ?_ | refine IWk.mk ⟨_, hp, rfl⟩ ?_ ?_) | refine IWk.mk ⟨_, hp, rfl⟩ ?_ ?_)
                    all_goals try first | with_reducible rfl | omega | exact .inl (by decide) | (simp; done) | rfl
                    all_goals (rw [numV_succ hx]; try omega)
              · refine sh ?_
                refine nX (k + 1) ?_ ?_ ⟨_, hp, rfl⟩ ?_ ?_
                · refine ⟨by omega, by omega, by rw [all_take_succ hx, k3, hdx]; rfl, fun _ => k4 (by omega)⟩
                · omega
                · all_goals repeat' (first | exact True.intro | refine And.intro ?_ ?_ | (intro _u; clear _u) | (with_reducible first | exact DnLe.fg | refine eM ?_ ?_ | refine eF ?_ ?_ ?_ | refine eN ?_ | refine eL ?_ ?_ ?_ | refine eA ?_ ?_ | refine IWk.mk ⟨_, hp, rfl⟩ ?_ ?_) | refine IWk.mk ⟨_, hp, rfl⟩ ?_ ?_)
                  all_goals try first | with_reducible rfl | omega | exact .inl (by decide) | (simp; done) | rfl
                  all_goals (rw [numV_succ hx]; try omega)
                · all_goals repeat' (first | exact True.intro | refine And.intro ?_ ?_ | (intro _u; clear _u) | (with_reducible first | exact DnLe.fg | refine eM ?_ ?_ | refine eF ?_ ?_ ?_ | refine eN ?_ | refine eL ?_ ?_ ?_ | refine eA ?_ ?_ | refine IWk.mk ⟨_, hp, rfl⟩ ?_ ?_) | refine IWk.mk ⟨_, hp, rfl⟩ ?_ ?_)
                  all_goals try first | with_reducible rfl | omega | exact .inl (by decide) | (simp; done) | rfl
                  all_goals (rw [numV_succ hx]; try omega)
      · rw [List.take_of_length_le (by omega)] at k3 ⊢
        refine sh ?_
        refine rT ?_
        all_goals repeat' (first | exact True.intro | refine And.intro ?_ ?_ | (intro _u; clear _u) | (with_reducible first | exact DnLe.fg | refine eM ?_ ?_ | refine eF ?_ ?_ ?_ | refine eN ?_ | refine eL ?_ ?_ ?_ | refine eA ?_ ?_ | refine IWk.mk ⟨_, hp, rfl⟩ ?_ ?_) | refine IWk.mk ⟨_, hp, rfl⟩ ?_ ?_)
        all_goals try first | with_reducible rfl | omega | exact .inl (by decide) | (simp; done) | rfl
        have : numOk s = true := by
          unfold numOk
          rw [k3, decide_eq_true (by omega)]
          by_cases h0 : s = []
          · subst h0; rfl
          · have : 0 < s.length := by cases s with | nil => exact absurd rfl h0 | cons => simp
            have := k4 (by omega)
            simpa using this
        unfold num; rw [this]; rfl
theorem hasp_c {R : Env} (h : N389 R) (s p : List UInt8) : R.Pc 389 [.isl 1 (slc8 s), .isl 1 (slc8 p)] (.bool (s.take p.length == p)) :=
  h.o389.enter 60 rfl fun X bb hfit hp => by
    refine sh ?_
    refine cS (fun h1 => ?_) (fun h1 => ?_)
    · refine sh ?_
      refine aSb ?_
      refine sh ?_
      refine ICall.pure h.n47.o47.hb (eq8_c h.n47 (s.take p.length) p) rfl ?_
      refine sh ?_
      exact rT
    · have e : (s.take p.length == p) = false := by
        rw [beq_eq_false_iff_ne]
        intro e
        have := congrArg List.length e
        simp at this
        omega
      rw [e]
      refine sh ?_
      exact rT
theorem bclone_c {R : Env} (h : N390 R) (s : List UInt8) (hs : s.length ≤ 1073741824) : R.Pc 390 [.isl 1 (slc8 s)] (.isl 1 (slc8 s)) :=
  h.o390.enter 60 rfl fun X bb hfit hp => by
    refine sh ?_
    refine ANil.mk (fun hn => ?_) ?_
    · have : s = [] := by simpa [slc8] using hn
      subst this
      refine sh ?_
      exact rT
    · refine sh ?_
      exact rT
theorem lines_c {R : Env} (h : N386 R) (b : List UInt8) : R.Mc 386 [.isl 1 (slc8 b)] [] (R.cl 395 [.loc 0 1 0 0]) [(0, .var (R.ty 51) [.isl 1 (slc8 b)])] 1 :=
  h.o386.enterM 60 0 rfl rfl rfl fun X b hfit hp => by
    refine sh ?_
    exact rM [0]
end Go.UM

namespace Go.UM
open Go.AM
set_option maxRecDepth 4000
def wW : List UInt8 := [87, 73, 68, 84, 72]
def wH : List UInt8 := [72, 69, 73, 71, 72, 84]
def wD : List UInt8 := [68, 69, 80, 84, 72]
def wT : List UInt8 := [84, 85, 80, 76, 84, 89, 80, 69]
abbrev wrds : List (List AV) := [[.str []], [.str wW], [.str wH], [.str wD], [.str []], [.str wT], [.str []]]
def Pl.own (p : Pl) : List AV := [.int .i64 p.w, .int .i64 p.h, .int .i64 p.deep, .str p.name, .nils]
def turnW (o : Pl) (l : List UInt8) : Pl := if (val l wW).2 then ⟨num (val l wW).1, o.h, o.deep, o.name, o.data⟩ else o
def turnH (o : Pl) (l : List UInt8) : Pl := if (val l wH).2 then ⟨o.w, num (val l wH).1, o.deep, o.name, o.data⟩ else o
def turnD (o : Pl) (l : List UInt8) : Pl := if (val l wD).2 then ⟨o.w, o.h, num (val l wD).1, o.name, o.data⟩ else o
def turnT (o : Pl) (l : List UInt8) : Pl := if (val l wT).2 then ⟨o.w, o.h, o.deep, (val l wT).1, o.data⟩ else o
def turn (k : Nat) (o : Pl) (l : List UInt8) : Pl := match k with
  | 1 => turnW o l
  | 2 => turnH o l
  | 3 => turnD o l
  | 5 => turnT o l
  | _ => o
theorem val_len (l w : List UInt8) : (val l w).1.length ≤ l.length := by
  unfold val
  split
  · simp
  · simp
theorem round0_c {R : Env} {l : Nat} {r : Loop} (h : N372 R) (hlp : IsLp R r c372lp) (ln bh : List UInt8) (o : Pl) (hl : ln.length ≤ 1073741824) :
    Wc (wayY R.P l r c372lp.ss) ([.str ln, .isl 1 (slc8 bh)] ++ [.loc 0 1 0 0, .loc 1 1 0 0, .loc 2 1 0 0, .loc 4 1 0 0])
      [(0, .var (R.ty 51) [.nils]), (1, .var (R.ty 10) [.int .i64 0]), (2, .var (R.ty 52) [.osl 3 7]), (3, .arr (R.ty 23) 1 wrds), (4, .var (R.ty 20) o.own)] (.bool true)
      [(0, .var (R.ty 51) [.isl 1 (slc8 bh)]), (1, .var (R.ty 10) [.int .i64 1]), (2, .var (R.ty 52) [.osl 3 7]), (3, .arr (R.ty 23) 1 wrds), (4, .var (R.ty 20) (turn 0 o ln).own)] 5 :=
  Env.enterY hlp 100 5 rfl rfl rfl fun X bb hfit hp => by
    have hv := val_len ln []
    refine st ?_
    intro X hp
    refine sh ?_
    refine aelt_lit rfl ?_
    refine sh ?_
    refine ICall.pure h.n387.o387.hb (value_c h.n387 ln [] hl (by decide)) rfl ?_
    refine sh ?_
    refine cS (fun h1 => ?_) (fun h1 => ?_)
    · refine sh ?_
      refine aelt_lit rfl ?_
      refine sh ?_
      refine acnd_f (by decide) ?_
      refine sh ?_
      refine acnd_f (by decide) ?_
      refine sh ?_
      exact rM [0, 1, 2, 3, 4]
    · refine sh ?_
      refine acnd_f (by decide) ?_
      refine sh ?_
      exact rM [0, 1, 2, 3, 4]
theorem round1_c {R : Env} {l : Nat} {r : Loop} (h : N372 R) (hlp : IsLp R r c372lp) (ln bh rs : List UInt8) (o : Pl) (hl : ln.length ≤ 1073741824) :
    Wc (wayY R.P l r c372lp.ss) ([.str ln, .isl 1 (slc8 bh)] ++ [.loc 0 1 0 0, .loc 1 1 0 0, .loc 2 1 0 0, .loc 4 1 0 0])
      [(0, .var (R.ty 51) [.isl 1 (slc8 rs)]), (1, .var (R.ty 10) [.int .i64 1]), (2, .var (R.ty 52) [.osl 3 7]), (3, .arr (R.ty 23) 1 wrds), (4, .var (R.ty 20) o.own)] (.bool true)
      [(0, .var (R.ty 51) [.isl 1 (slc8 bh)]), (1, .var (R.ty 10) [.int .i64 2]), (2, .var (R.ty 52) [.osl 3 7]), (3, .arr (R.ty 23) 1 wrds), (4, .var (R.ty 20) (turn 1 o ln).own)] 5 :=
  Env.enterY hlp 100 5 rfl rfl rfl fun X bb hfit hp => by
    have hv := val_len ln wW
    refine st ?_
    intro X hp
    refine sh ?_
    refine aelt_lit rfl ?_
    refine sh ?_
    refine ICall.pure h.n387.o387.hb (value_c h.n387 ln wW hl (by decide)) rfl ?_
    refine sh ?_
    refine cS (fun h1 => ?_) (fun h1 => ?_)
    · have e : turn 1 o ln = ⟨num (val ln wW).1, o.h, o.deep, o.name, o.data⟩ := by simp [turn, turnW, h1]
      rw [e]
      refine sh ?_
      refine aelt_lit rfl ?_
      refine sh ?_
      refine acnd_t (by decide) ?_
      refine sh ?_
      refine acnd_t (by decide) ?_
      refine sh ?_
      refine ICall.pure h.n388.o388.hb (number_c h.n388 _ (by omega)) rfl ?_
      refine sh ?_
      refine acnd_f (by decide) ?_
      refine sh ?_
      exact rM [0, 1, 2, 3, 4]
    · have e : turn 1 o ln = o := by simp [turn, turnW, h1]
      rw [e]
      refine sh ?_
      refine acnd_f (by decide) ?_
      refine sh ?_
      exact rM [0, 1, 2, 3, 4]
theorem round2_c {R : Env} {l : Nat} {r : Loop} (h : N372 R) (hlp : IsLp R r c372lp) (ln bh rs : List UInt8) (o : Pl) (hl : ln.length ≤ 1073741824) :
    Wc (wayY R.P l r c372lp.ss) ([.str ln, .isl 1 (slc8 bh)] ++ [.loc 0 1 0 0, .loc 1 1 0 0, .loc 2 1 0 0, .loc 4 1 0 0])
      [(0, .var (R.ty 51) [.isl 1 (slc8 rs)]), (1, .var (R.ty 10) [.int .i64 2]), (2, .var (R.ty 52) [.osl 3 7]), (3, .arr (R.ty 23) 1 wrds), (4, .var (R.ty 20) o.own)] (.bool true)
      [(0, .var (R.ty 51) [.isl 1 (slc8 bh)]), (1, .var (R.ty 10) [.int .i64 3]), (2, .var (R.ty 52) [.osl 3 7]), (3, .arr (R.ty 23) 1 wrds), (4, .var (R.ty 20) (turn 2 o ln).own)] 5 :=
  Env.enterY hlp 100 5 rfl rfl rfl fun X bb hfit hp => by
    have hv := val_len ln wH
    refine st ?_
    intro X hp
    refine sh ?_
    refine aelt_lit rfl ?_
    refine sh ?_
    refine ICall.pure h.n387.o387.hb (value_c h.n387 ln wH hl (by decide)) rfl ?_
    refine sh ?_
    refine cS (fun h1 => ?_) (fun h1 => ?_)
    · have e : turn 2 o ln = ⟨o.w, num (val ln wH).1, o.deep, o.name, o.data⟩ := by simp [turn, turnH, h1]
      rw [e]
      refine sh ?_
      refine aelt_lit rfl ?_
      refine sh ?_
      refine acnd_t (by decide) ?_
      refine sh ?_
      refine acnd_f (by decide) ?_
      refine sh ?_
      refine acnd_t (by decide) ?_
      refine sh ?_
      refine ICall.pure h.n388.o388.hb (number_c h.n388 _ (by omega)) rfl ?_
      refine sh ?_
      refine acnd_f (by decide) ?_
      refine sh ?_
      exact rM [0, 1, 2, 3, 4]
    · have e : turn 2 o ln = o := by simp [turn, turnH, h1]
      rw [e]
      refine sh ?_
      refine acnd_f (by decide) ?_
      refine sh ?_
      exact rM [0, 1, 2, 3, 4]
theorem round3_c {R : Env} {l : Nat} {r : Loop} (h : N372 R) (hlp : IsLp R r c372lp) (ln bh rs : List UInt8) (o : Pl) (hl : ln.length ≤ 1073741824) :
    Wc (wayY R.P l r c372lp.ss) ([.str ln, .isl 1 (slc8 bh)] ++ [.loc 0 1 0 0, .loc 1 1 0 0, .loc 2 1 0 0, .loc 4 1 0 0])
      [(0, .var (R.ty 51) [.isl 1 (slc8 rs)]), (1, .var (R.ty 10) [.int .i64 3]), (2, .var (R.ty 52) [.osl 3 7]), (3, .arr (R.ty 23) 1 wrds), (4, .var (R.ty 20) o.own)] (.bool true)
      [(0, .var (R.ty 51) [.isl 1 (slc8 bh)]), (1, .var (R.ty 10) [.int .i64 4]), (2, .var (R.ty 52) [.osl 3 7]), (3, .arr (R.ty 23) 1 wrds), (4, .var (R.ty 20) (turn 3 o ln).own)] 5 :=
  Env.enterY hlp 100 5 rfl rfl rfl fun X bb hfit hp => by
    have hv := val_len ln wD
    refine st ?_
    intro X hp
    refine sh ?_
    refine aelt_lit rfl ?_
    refine sh ?_
    refine ICall.pure h.n387.o387.hb (value_c h.n387 ln wD hl (by decide)) rfl ?_
    refine sh ?_
    refine cS (fun h1 => ?_) (fun h1 => ?_)
    · have e : turn 3 o ln = ⟨o.w, o.h, num (val ln wD).1, o.name, o.data⟩ := by simp [turn, turnD, h1]
      rw [e]
      refine sh ?_
      refine aelt_lit rfl ?_
      refine sh ?_
      refine acnd_t (by decide) ?_
      refine sh ?_
      refine acnd_f (by decide) ?_
      refine sh ?_
      refine acnd_f (by decide) ?_
      refine sh ?_
      refine acnd_t (by decide) ?_
      refine sh ?_
      refine ICall.pure h.n388.o388.hb (number_c h.n388 _ (by omega)) rfl ?_
      refine sh ?_
      refine acnd_f (by decide) ?_
      refine sh ?_
      exact rM [0, 1, 2, 3, 4]
    · have e : turn 3 o ln = o := by simp [turn, turnD, h1]
      rw [e]
      refine sh ?_
      refine acnd_f (by decide) ?_
      refine sh ?_
      exact rM [0, 1, 2, 3, 4]
theorem round4_c {R : Env} {l : Nat} {r : Loop} (h : N372 R) (hlp : IsLp R r c372lp) (ln bh rs : List UInt8) (o : Pl) (hl : ln.length ≤ 1073741824) :
    Wc (wayY R.P l r c372lp.ss) ([.str ln, .isl 1 (slc8 bh)] ++ [.loc 0 1 0 0, .loc 1 1 0 0, .loc 2 1 0 0, .loc 4 1 0 0])
      [(0, .var (R.ty 51) [.isl 1 (slc8 rs)]), (1, .var (R.ty 10) [.int .i64 4]), (2, .var (R.ty 52) [.osl 3 7]), (3, .arr (R.ty 23) 1 wrds), (4, .var (R.ty 20) o.own)] (.bool true)
      [(0, .var (R.ty 51) [.isl 1 (slc8 bh)]), (1, .var (R.ty 10) [.int .i64 5]), (2, .var (R.ty 52) [.osl 3 7]), (3, .arr (R.ty 23) 1 wrds), (4, .var (R.ty 20) (turn 4 o ln).own)] 5 :=
  Env.enterY hlp 100 5 rfl rfl rfl fun X bb hfit hp => by
    have hv := val_len ln []
    refine st ?_
    intro X hp
    refine sh ?_
    refine aelt_lit rfl ?_
    refine sh ?_
    refine ICall.pure h.n387.o387.hb (value_c h.n387 ln [] hl (by decide)) rfl ?_
    refine sh ?_
    refine cS (fun h1 => ?_) (fun h1 => ?_)
    · refine sh ?_
      refine aelt_lit rfl ?_
      refine sh ?_
      refine acnd_f (by decide) ?_
      refine sh ?_
      refine acnd_f (by decide) ?_
      refine sh ?_
      exact rM [0, 1, 2, 3, 4]
    · refine sh ?_
      refine acnd_f (by decide) ?_
      refine sh ?_
      exact rM [0, 1, 2, 3, 4]
theorem round5_c {R : Env} {l : Nat} {r : Loop} (h : N372 R) (hlp : IsLp R r c372lp) (ln bh rs : List UInt8) (o : Pl) (hl : ln.length ≤ 1073741824) :
    Wc (wayY R.P l r c372lp.ss) ([.str ln, .isl 1 (slc8 bh)] ++ [.loc 0 1 0 0, .loc 1 1 0 0, .loc 2 1 0 0, .loc 4 1 0 0])
      [(0, .var (R.ty 51) [.isl 1 (slc8 rs)]), (1, .var (R.ty 10) [.int .i64 5]), (2, .var (R.ty 52) [.osl 3 7]), (3, .arr (R.ty 23) 1 wrds), (4, .var (R.ty 20) o.own)] (.bool true)
      [(0, .var (R.ty 51) [.isl 1 (slc8 bh)]), (1, .var (R.ty 10) [.int .i64 6]), (2, .var (R.ty 52) [.osl 3 7]), (3, .arr (R.ty 23) 1 wrds), (4, .var (R.ty 20) (turn 5 o ln).own)] 5 :=
  Env.enterY hlp 100 5 rfl rfl rfl fun X bb hfit hp => by
    have hv := val_len ln wT
    refine st ?_
    intro X hp
    refine sh ?_
    refine aelt_lit rfl ?_
    refine sh ?_
    refine ICall.pure h.n387.o387.hb (value_c h.n387 ln wT hl (by decide)) rfl ?_
    refine sh ?_
    refine cS (fun h1 => ?_) (fun h1 => ?_)
    · have e : turn 5 o ln = ⟨o.w, o.h, o.deep, (val ln wT).1, o.data⟩ := by simp [turn, turnT, h1]
      rw [e]
      refine sh ?_
      refine aelt_lit rfl ?_
      refine sh ?_
      refine acnd_t (by decide) ?_
      refine sh ?_
      refine acnd_f (by decide) ?_
      refine sh ?_
      refine acnd_f (by decide) ?_
      refine sh ?_
      refine acnd_f (by decide) ?_
      refine sh ?_
      refine acnd_t (by decide) ?_
      refine sh ?_
      refine acnd_f (by decide) ?_
      refine sh ?_
      exact rM [0, 1, 2, 3, 4]
    · have e : turn 5 o ln = o := by simp [turn, turnT, h1]
      rw [e]
      refine sh ?_
      refine acnd_f (by decide) ?_
      refine sh ?_
      exact rM [0, 1, 2, 3, 4]
theorem round6_c {R : Env} {l : Nat} {r : Loop} (h : N372 R) (hlp : IsLp R r c372lp) (ln bh rs : List UInt8) (o : Pl) (hl : ln.length ≤ 1073741824) :
    Wc (wayYB R.P l r c372lp.ss 0) ([.str ln, .isl 1 (slc8 bh)] ++ [.loc 0 1 0 0, .loc 1 1 0 0, .loc 2 1 0 0, .loc 4 1 0 0])
      [(0, .var (R.ty 51) [.isl 1 (slc8 rs)]), (1, .var (R.ty 10) [.int .i64 6]), (2, .var (R.ty 52) [.osl 3 7]), (3, .arr (R.ty 23) 1 wrds), (4, .var (R.ty 20) o.own)] (.bool false)
      [(0, .var (R.ty 51) [.isl 1 (slc8 bh)]), (1, .var (R.ty 10) [.int .i64 7]), (2, .var (R.ty 52) [.osl 3 7]), (3, .arr (R.ty 23) 1 wrds), (4, .var (R.ty 20) (turn 6 o ln).own)] 5 :=
  Env.enterYB hlp 0 100 5 rfl rfl rfl fun X bb hfit hp => by
    have hv := val_len ln []
    refine st ?_
    intro X hp
    refine sh ?_
    refine aelt_lit rfl ?_
    refine sh ?_
    refine ICall.pure h.n387.o387.hb (value_c h.n387 ln [] hl (by decide)) rfl ?_
    refine sh ?_
    refine cS (fun h1 => ?_) (fun h1 => ?_)
    · refine sh ?_
      refine aelt_lit rfl ?_
      refine sh ?_
      refine acnd_f (by decide) ?_
      refine sh ?_
      refine ⟨rfl, ?_⟩
      refine sh ?_
      refine acnd_t (by decide) ?_
      refine sh ?_
      exact rM [0, 1, 2, 3, 4]
    · refine sh ?_
      refine ⟨rfl, ?_⟩
      refine sh ?_
      refine acnd_t (by decide) ?_
      refine sh ?_
      exact rM [0, 1, 2, 3, 4]
end Go.UM

namespace Go.UM
open Go.AM
set_option maxRecDepth 4000
structure Dr where
  own : Pl
  rest : Option (List UInt8)
  at' : Nat
  tail : List UInt8
def dgo : Nat → Pl → Option (List UInt8) → List UInt8 → Dr
  | 0, o, rs, t => ⟨o, rs, 7, t⟩
  | n + 1, o, rs, t => match cut t with
    | none => ⟨o, rs, 6 - n, t⟩
    | some (a, r) => dgo n (turn (6 - n) o a) (some r) (if n = 0 then t else r)
def full : Nat → List UInt8 → Bool
  | 0, _ => true
  | n + 1, t => match cut t with
    | none => false
    | some (_, r) => full n r
theorem ixb10_c {R : Env} (h : N397 R) (s : List UInt8) : R.Pc 397 [.isl 1 (slc8 s), .int .u8 10] (.int .i64 (Lib.indexByte s 10)) := ixb_c h s 10
theorem cut_none {t : List UInt8} (h : cut t = none) : Lib.indexByte t 10 = -1 := by
  have := cut_ix t
  rw [h] at this
  exact this
theorem sub_a {t a : List UInt8} {n : Nat} (h : t.take n = a) : List.take ((n : Int)).toNat (slc8 t) = slc8 a := by rw [Int.toNat_natCast, slc8_take, h]
theorem sub_r {t r : List UInt8} {n : Nat} (h : t.drop (n + 1) = r) : List.drop ((n : Int) + 1).toNat (slc8 t) = slc8 r := by rw [show ((n : Int) + 1).toNat = n + 1 by omega, slc8_drop, h]
theorem cut_some {t a r : List UInt8} (h : cut t = some (a, r)) : ∃ n : Nat, Lib.indexByte t 10 = n ∧ n < t.length ∧ t.take n = a ∧ t.drop (n + 1) = r := by
  have := cut_ix t
  rw [h] at this
  exact this
theorem dgo_none {w : List UInt8} (h : cut w = none) {j : Nat} (hj : j ≤ 6) (u : Pl) (rs : Option (List UInt8)) : dgo (7 - j) u rs w = ⟨u, rs, j, w⟩ := by
  obtain ⟨i, hi⟩ : ∃ i, 7 - j = i + 1 := ⟨6 - j, by omega⟩
  rw [hi, dgo, h]
  simp; omega
theorem dgo_some {w a q : List UInt8} (h : cut w = some (a, q)) {j : Nat} (hj : j ≤ 5) (u : Pl) (rs : Option (List UInt8)) : dgo (7 - j) u rs w = dgo (7 - (j + 1)) (turn j u a) (some q) q := by
  obtain ⟨i, hi⟩ : ∃ i, 7 - j = i + 1 := ⟨6 - j, by omega⟩
  rw [hi, dgo, h]
  dsimp only
  rw [if_neg (by omega), show 6 - i = j by omega, show 7 - (j + 1) = i by omega]
theorem full_none {w : List UInt8} (h : cut w = none) {j : Nat} (hj : j ≤ 6) : full (7 - j) w = false := by
  obtain ⟨i, hi⟩ : ∃ i, 7 - j = i + 1 := ⟨6 - j, by omega⟩
  rw [hi, full, h]
theorem full_some {w a q : List UInt8} (h : cut w = some (a, q)) {j : Nat} (hj : j ≤ 6) : full (7 - j) w = full (7 - (j + 1)) q := by
  obtain ⟨i, hi⟩ : ∃ i, 7 - j = i + 1 := ⟨6 - j, by omega⟩
  rw [hi, full, h, show 7 - (j + 1) = i by omega]
theorem lines0_c {R : Env} {l : Nat} {r : Loop} (h : N395 R) (hlp : IsLp R r c372lp) (b : List UInt8) (o : Pl) (hc : cut b = none) :
    Wc (wayL R.P (R.ft 395) l r) [.clo (.lp l (tmOf r c372lp.ss)) [.loc 0 1 0 0, .loc 1 1 0 0, .loc 2 1 0 0, .loc 4 1 0 0], .loc 5 1 0 0] [(0, .var (R.ty 51) [.nils]), (1, .var (R.ty 10) [.int .i64 0]), (2, .var (R.ty 52) [.osl 3 7]), (3, .arr (R.ty 23) 1 wrds), (4, .var (R.ty 20) o.own), (5, .var (R.ty 51) [.isl 1 (slc8 b)])] (.tup [])
      [(0, .var (R.ty 51) [.nils]), (1, .var (R.ty 10) [.int .i64 0]), (2, .var (R.ty 52) [.osl 3 7]), (3, .arr (R.ty 23) 1 wrds), (4, .var (R.ty 20) o.own), (5, .var (R.ty 51) [.isl 1 (slc8 b)])] 6 :=
  h.o395.enterL 100 6 rfl rfl rfl fun X bb hfit hp hX => by
    have e := cut_none hc
    refine sh ?_
    refine ILoop.one 100 ?_
    refine sh ?_
    refine ICall.pure h.n397.o397.hb (ixb10_c h.n397 b) rfl ?_
    rw [e]
    refine sh ?_
    refine acnd_t (by decide) ?_
    refine sh ?_
    exact rM [0, 1, 2, 3, 4, 5]
theorem lines1_c {R : Env} {l : Nat} {r : Loop} (h : N395 R) (h2 : N372 R) (hlp : IsLp R r c372lp) (b : List UInt8) (hb : b.length ≤ 1073741824) (o : Pl) (hf : full 7 b = false) {o' : Pl} {rs t : List UInt8} {k : Nat} (hd : dgo 7 o none b = ⟨o', some rs, k, t⟩) :
    Wc (wayL R.P (R.ft 395) l r) [.clo (.lp l (tmOf r c372lp.ss)) [.loc 0 1 0 0, .loc 1 1 0 0, .loc 2 1 0 0, .loc 4 1 0 0], .loc 5 1 0 0] [(0, .var (R.ty 51) [.nils]), (1, .var (R.ty 10) [.int .i64 0]), (2, .var (R.ty 52) [.osl 3 7]), (3, .arr (R.ty 23) 1 wrds), (4, .var (R.ty 20) o.own), (5, .var (R.ty 51) [.isl 1 (slc8 b)])] (.tup [])
      [(0, .var (R.ty 51) [.isl 1 (slc8 rs)]), (1, .var (R.ty 10) [.int .i64 k]), (2, .var (R.ty 52) [.osl 3 7]), (3, .arr (R.ty 23) 1 wrds), (4, .var (R.ty 20) o'.own), (5, .var (R.ty 51) [.isl 1 (slc8 t)])] 6 :=
  h.o395.enterL 100 6 rfl rfl rfl fun X bb hfit hp hX => by
    cases hc : cut b with
    | none => rw [dgo, hc] at hd; simp at hd
    | some x =>
      obtain ⟨a, q⟩ := x
      obtain ⟨n, e1, e2, e3, e4⟩ := cut_some hc
      rw [full, hc] at hf
      rw [dgo, hc] at hd
      dsimp only at hf hd
      rw [if_neg (by decide)] at hd
      have la : a.length ≤ 1073741824 := by rw [← e3]; simp; omega
      have lq : q.length ≤ 1073741824 := by rw [← e4]; simp; omega
      refine sh ?_
      refine ILoop.one 100 ?_
      refine sh ?_
      refine ICall.pure h.n397.o397.hb (ixb10_c h.n397 b) rfl ?_
      rw [e1]
      refine sh ?_
      refine acnd_f (by simp) ?_
      refine sh ?_
      refine asub_eq (by exact sub_a e3) ?_
      refine sh ?_
      refine asub_eq (by exact sub_r e4) ?_
      refine sh ?_
      refine cY false [0, 1, 2, 3, 4] hX hlp (round0_c h2 hlp a q o la) ?_
      repeat (intro _; first | refine eK ?_ | refine eP ?_)
      refine sh ?_
      refine asub_eq (by exact sub_r e4) ?_
      refine sh ?_
      refine lPa 100 (fun s : Nat × Pl × List UInt8 × List UInt8 => (1 ≤ s.1 ∧ s.1 ≤ 6) ∧ full (7 - s.1) s.2.2.2 = false ∧ dgo (7 - s.1) s.2.1 (some s.2.2.1) s.2.2.2 = ⟨o', some rs, k, t⟩ ∧ s.2.2.2.length ≤ 1073741824) (fun s => ⟨[(0, .clo (.lp l (tmOf r c372lp.ss)) [.loc 0 1 0 0, .loc 1 1 0 0, .loc 2 1 0 0, .loc 4 1 0 0]), (1, .loc 5 1 0 0)], [(0, .var (R.ty 51) [.isl 1 (slc8 s.2.2.1)]), (1, .var (R.ty 10) [.int .i64 (s.1 : Int)]), (2, .var (R.ty 52) [.osl 3 7]), (3, .arr (R.ty 23) 1 wrds), (4, .var (R.ty 20) s.2.1.own), (5, .var (R.ty 51) [.isl 1 (slc8 s.2.2.2)])], 6⟩) (fun s => 7 - s.1) ((1, turn 0 o a, q, q)) ?_ ?_
      · exact ⟨⟨by simp, by simp⟩, hf, hd, lq⟩
      · rintro ⟨j, u, rs', w⟩ ⟨⟨j1, j2⟩, hf', hd', lw⟩
        dsimp only at j1 j2 hf' hd' lw ⊢
        clear hf hd hc e1 e2 e3 e4
        cases hc : cut w with
        | none =>
          rw [dgo_none hc j2] at hd'
          simp only [Dr.mk.injEq, Option.some.injEq] at hd'
          obtain ⟨rfl, rfl, rfl, rfl⟩ := hd'
          refine sh ?_
          refine ICall.pure h.n397.o397.hb (ixb10_c h.n397 w) rfl ?_
          rw [cut_none hc]
          refine sh ?_
          refine acnd_t (by decide) ?_
          refine sh ?_
          exact rM [0, 1, 2, 3, 4, 5]
        | some x =>
          obtain ⟨c, v⟩ := x
          obtain ⟨m, e1, e2, e3, e4⟩ := cut_some hc
          have lc : c.length ≤ 1073741824 := by rw [← e3]; simp; omega
          have lv : v.length ≤ 1073741824 := by rw [← e4]; simp; omega
          rw [full_some hc j2] at hf'
          have j5 : j = 1 ∨ j = 2 ∨ j = 3 ∨ j = 4 ∨ j = 5 := by
            by_cases h6 : j = 6
            · subst h6; simp [full] at hf'
            · omega
          rw [dgo_some hc (by omega)] at hd'
          refine sh ?_
          refine ICall.pure h.n397.o397.hb (ixb10_c h.n397 w) rfl ?_
          rw [e1]
          refine sh ?_
          refine acnd_f (by simp) ?_
          refine sh ?_
          refine asub_eq (by exact sub_a e3) ?_
          refine sh ?_
          refine asub_eq (by exact sub_r e4) ?_
          rcases j5 with rfl | rfl | rfl | rfl | rfl
          · refine sh ?_
            refine cY false [0, 1, 2, 3, 4] hX hlp (round1_c h2 hlp c v rs' u lc) ?_
            repeat (intro _; first | refine eK ?_ | refine eP ?_)
            refine sh ?_
            refine asub_eq (by exact sub_r e4) ?_
            refine sh ?_
            refine nXa ((2, turn 1 u c, v, v)) ?_ ?_
            · exact ⟨⟨by simp, by simp⟩, hf', hd', lv⟩
            · simp
          · refine sh ?_
            refine cY false [0, 1, 2, 3, 4] hX hlp (round2_c h2 hlp c v rs' u lc) ?_
            repeat (intro _; first | refine eK ?_ | refine eP ?_)
            refine sh ?_
            refine asub_eq (by exact sub_r e4) ?_
            refine sh ?_
            refine nXa ((3, turn 2 u c, v, v)) ?_ ?_
            · exact ⟨⟨by simp, by simp⟩, hf', hd', lv⟩
            · simp
          · refine sh ?_
            refine cY false [0, 1, 2, 3, 4] hX hlp (round3_c h2 hlp c v rs' u lc) ?_
            repeat (intro _; first | refine eK ?_ | refine eP ?_)
            refine sh ?_
            refine asub_eq (by exact sub_r e4) ?_
            refine sh ?_
            refine nXa ((4, turn 3 u c, v, v)) ?_ ?_
            · exact ⟨⟨by simp, by simp⟩, hf', hd', lv⟩
            · simp
          · refine sh ?_
            refine cY false [0, 1, 2, 3, 4] hX hlp (round4_c h2 hlp c v rs' u lc) ?_
            repeat (intro _; first | refine eK ?_ | refine eP ?_)
            refine sh ?_
            refine asub_eq (by exact sub_r e4) ?_
            refine sh ?_
            refine nXa ((5, turn 4 u c, v, v)) ?_ ?_
            · exact ⟨⟨by simp, by simp⟩, hf', hd', lv⟩
            · simp
          · refine sh ?_
            refine cY false [0, 1, 2, 3, 4] hX hlp (round5_c h2 hlp c v rs' u lc) ?_
            repeat (intro _; first | refine eK ?_ | refine eP ?_)
            refine sh ?_
            refine asub_eq (by exact sub_r e4) ?_
            refine sh ?_
            refine nXa ((6, turn 5 u c, v, v)) ?_ ?_
            · exact ⟨⟨by simp, by simp⟩, hf', hd', lv⟩
            · simp
theorem dgo_last {w a q : List UInt8} (h : cut w = some (a, q)) (u : Pl) (rs : Option (List UInt8)) : dgo (7 - 6) u rs w = ⟨turn 6 u a, some q, 7, w⟩ := by
  rw [show 7 - 6 = 0 + 1 from rfl, dgo, h]; rfl
theorem linesB_c {R : Env} {l : Nat} {r : Loop} (h : N395 R) (h2 : N372 R) (hlp : IsLp R r c372lp) (b : List UInt8) (hb : b.length ≤ 1073741824) (o : Pl) (hf : full 7 b = true) {o' : Pl} {rs t : List UInt8} (hd : dgo 7 o none b = ⟨o', some rs, 7, t⟩) :
    Wc (wayLB R.P (R.ft 395) l r 0) [.clo (.lp l (tmOf r c372lp.ss)) [.loc 0 1 0 0, .loc 1 1 0 0, .loc 2 1 0 0, .loc 4 1 0 0], .loc 5 1 0 0] [(0, .var (R.ty 51) [.nils]), (1, .var (R.ty 10) [.int .i64 0]), (2, .var (R.ty 52) [.osl 3 7]), (3, .arr (R.ty 23) 1 wrds), (4, .var (R.ty 20) o.own), (5, .var (R.ty 51) [.isl 1 (slc8 b)])] (.tup [])
      [(0, .var (R.ty 51) [.isl 1 (slc8 rs)]), (1, .var (R.ty 10) [.int .i64 7]), (2, .var (R.ty 52) [.osl 3 7]), (3, .arr (R.ty 23) 1 wrds), (4, .var (R.ty 20) o'.own), (5, .var (R.ty 51) [.isl 1 (slc8 t)])] 6 :=
  by
  refine h.o395.enterLB (σ := Unit ⊕ (Nat × Pl × List UInt8 × List UInt8)) 100 6 0 rfl rfl rfl rfl rfl rfl
    (Sum.elim (fun _ => True) (fun s => (1 ≤ s.1 ∧ s.1 ≤ 6) ∧ full (7 - s.1) s.2.2.2 = true ∧ dgo (7 - s.1) s.2.1 (some s.2.2.1) s.2.2.2 = ⟨o', some rs, 7, t⟩ ∧ s.2.2.2.length ≤ 1073741824))
    (Sum.elim (fun _ => ⟨[(0, .clo (.lp l (tmOf r c372lp.ss)) [.loc 0 1 0 0, .loc 1 1 0 0, .loc 2 1 0 0, .loc 4 1 0 0]), (1, .loc 5 1 0 0)], [(0, .var (R.ty 51) [.nils]), (1, .var (R.ty 10) [.int .i64 0]), (2, .var (R.ty 52) [.osl 3 7]), (3, .arr (R.ty 23) 1 wrds), (4, .var (R.ty 20) o.own), (5, .var (R.ty 51) [.isl 1 (slc8 b)])], 6⟩) (fun s => ⟨[(0, .clo (.lp l (tmOf r c372lp.ss)) [.loc 0 1 0 0, .loc 1 1 0 0, .loc 2 1 0 0, .loc 4 1 0 0]), (1, .loc 5 1 0 0)], [(0, .var (R.ty 51) [.isl 1 (slc8 s.2.2.1)]), (1, .var (R.ty 10) [.int .i64 (s.1 : Int)]), (2, .var (R.ty 52) [.osl 3 7]), (3, .arr (R.ty 23) 1 wrds), (4, .var (R.ty 20) s.2.1.own), (5, .var (R.ty 51) [.isl 1 (slc8 s.2.2.2)])], 6⟩)) (Sum.elim (fun _ => 7) (fun s => 7 - s.1)) (.inl ()) trivial
    (fun X hfit hp => ?_) (fun X bb hfit hp hX s hV => ?_)
  · dsimp only [Sum.elim_inl]
    all_goals repeat' (first | exact True.intro | refine And.intro ?_ ?_ | (intro _u; clear _u) | (with_reducible first | exact DnLe.fg | refine eM ?_ ?_ | refine eF ?_ ?_ ?_ | refine eN ?_ | refine eL ?_ ?_ ?_ | refine eA ?_ ?_ | refine IWk.mk ⟨_, hp, rfl⟩ ?_ ?_) | refine IWk.mk ⟨_, hp, rfl⟩ ?_ ?_)
    all_goals try first | with_reducible rfl | omega | exact .inl (by decide) | (simp; done) | rfl
  · · rcases s with i | ⟨j, u, rs', w⟩
      · left
        dsimp only [Sum.elim_inl]
        cases hc : cut b with
        | none => rw [full, hc] at hf; simp at hf
        | some x =>
          obtain ⟨a, q⟩ := x
          obtain ⟨n, e1, e2, e3, e4⟩ := cut_some hc
          rw [full, hc] at hf
          rw [dgo, hc] at hd
          dsimp only at hf hd
          rw [if_neg (by decide)] at hd
          have la : a.length ≤ 1073741824 := by rw [← e3]; simp; omega
          have lq : q.length ≤ 1073741824 := by rw [← e4]; simp; omega
          refine sh ?_
          refine ICall.pure h.n397.o397.hb (ixb10_c h.n397 b) rfl ?_
          rw [e1]
          refine sh ?_
          refine acnd_f (by simp) ?_
          refine sh ?_
          refine asub_eq (by exact sub_a e3) ?_
          refine sh ?_
          refine asub_eq (by exact sub_r e4) ?_
          refine sh ?_
          refine cY false [0, 1, 2, 3, 4] hX hlp (round0_c h2 hlp a q o la) ?_
          repeat (intro _; first | refine eK ?_ | refine eP ?_)
          refine sh ?_
          refine asub_eq (by exact sub_r e4) ?_
          refine sh ?_
          refine nXa (.inr (1, turn 0 o a, q, q)) ?_ ?_
          · exact ⟨⟨by simp, by simp⟩, hf, hd, lq⟩
          · simp
      · obtain ⟨⟨j1, j2⟩, hf', hd', lw⟩ := hV
        dsimp only [Sum.elim_inr] at j1 j2 hf' hd' lw ⊢
        clear hf hd
        cases hc : cut w with
        | none => rw [full_none hc j2] at hf'; simp at hf'
        | some x =>
          obtain ⟨c, v⟩ := x
          obtain ⟨m, e1, e2, e3, e4⟩ := cut_some hc
          have lc : c.length ≤ 1073741824 := by rw [← e3]; simp; omega
          have lv : v.length ≤ 1073741824 := by rw [← e4]; simp; omega
          rw [full_some hc j2] at hf'
          by_cases h6 : j = 6
          · subst h6
            right
            rw [dgo_last hc] at hd'
            simp only [Dr.mk.injEq, Option.some.injEq] at hd'
            obtain ⟨rfl, rfl, _, rfl⟩ := hd'
            refine sh ?_
            refine ICall.pure h.n397.o397.hb (ixb10_c h.n397 w) rfl ?_
            rw [e1]
            refine sh ?_
            refine acnd_f (by simp) ?_
            refine sh ?_
            refine asub_eq (by exact sub_a e3) ?_
            refine sh ?_
            refine asub_eq (by exact sub_r e4) ?_
            refine sh ?_
            refine cYB false [0, 1, 2, 3, 4] hX hlp (round6_c h2 hlp c v rs' u lc) ?_
            repeat (intro _; first | refine eK ?_ | refine eP ?_)
            refine st ?_
            intro X hp
            refine sh ?_
            exact rM [0, 1, 2, 3, 4, 5]
          · left
            have j5 : j = 1 ∨ j = 2 ∨ j = 3 ∨ j = 4 ∨ j = 5 := by omega
            rw [dgo_some hc (by omega)] at hd'
            refine sh ?_
            refine ICall.pure h.n397.o397.hb (ixb10_c h.n397 w) rfl ?_
            rw [e1]
            refine sh ?_
            refine acnd_f (by simp) ?_
            refine sh ?_
            refine asub_eq (by exact sub_a e3) ?_
            refine sh ?_
            refine asub_eq (by exact sub_r e4) ?_
            rcases j5 with rfl | rfl | rfl | rfl | rfl
            · refine sh ?_
              refine cY false [0, 1, 2, 3, 4] hX hlp (round1_c h2 hlp c v rs' u lc) ?_
              repeat (intro _; first | refine eK ?_ | refine eP ?_)
              refine sh ?_
              refine asub_eq (by exact sub_r e4) ?_
              refine sh ?_
              refine nXa (.inr (2, turn 1 u c, v, v)) ?_ ?_
              · exact ⟨⟨by simp, by simp⟩, hf', hd', lv⟩
              · simp
            · refine sh ?_
              refine cY false [0, 1, 2, 3, 4] hX hlp (round2_c h2 hlp c v rs' u lc) ?_
              repeat (intro _; first | refine eK ?_ | refine eP ?_)
              refine sh ?_
              refine asub_eq (by exact sub_r e4) ?_
              refine sh ?_
              refine nXa (.inr (3, turn 2 u c, v, v)) ?_ ?_
              · exact ⟨⟨by simp, by simp⟩, hf', hd', lv⟩
              · simp
            · refine sh ?_
              refine cY false [0, 1, 2, 3, 4] hX hlp (round3_c h2 hlp c v rs' u lc) ?_
              repeat (intro _; first | refine eK ?_ | refine eP ?_)
              refine sh ?_
              refine asub_eq (by exact sub_r e4) ?_
              refine sh ?_
              refine nXa (.inr (4, turn 3 u c, v, v)) ?_ ?_
              · exact ⟨⟨by simp, by simp⟩, hf', hd', lv⟩
              · simp
            · refine sh ?_
              refine cY false [0, 1, 2, 3, 4] hX hlp (round4_c h2 hlp c v rs' u lc) ?_
              repeat (intro _; first | refine eK ?_ | refine eP ?_)
              refine sh ?_
              refine asub_eq (by exact sub_r e4) ?_
              refine sh ?_
              refine nXa (.inr (5, turn 4 u c, v, v)) ?_ ?_
              · exact ⟨⟨by simp, by simp⟩, hf', hd', lv⟩
              · simp
            · refine sh ?_
              refine cY false [0, 1, 2, 3, 4] hX hlp (round5_c h2 hlp c v rs' u lc) ?_
              repeat (intro _; first | refine eK ?_ | refine eP ?_)
              refine sh ?_
              refine asub_eq (by exact sub_r e4) ?_
              refine sh ?_
              refine nXa (.inr (6, turn 5 u c, v, v)) ?_ ?_
              · exact ⟨⟨by simp, by simp⟩, hf', hd', lv⟩
              · simp
end Go.UM

namespace Go.UM
open Go.AM
theorem ofInt_toNat {n : Nat} {x : Int} (h0 : 0 ≤ x) (h1 : x < 2 ^ n) : (BitVec.ofInt n x).toNat = x.toNat := by
  rw [BitVec.toNat_ofInt]
  congr 1
  apply Int.emod_eq_of_lt h0
  exact_mod_cast h1
theorem wr_nat_i64 {x : Nat} (h : x < 9223372036854775808) : wr .i64 (x : Int) = x := wr_in (k := .i64) ⟨by omega, by omega⟩
theorem or_i64 {x y : Int} (hx : 0 ≤ x ∧ x ≤ 9223372036854775807) (hy : 0 ≤ y ∧ y ≤ 9223372036854775807) : bit2 .or .i64 x y = ((x.toNat ||| y.toNat : Nat) : Int) := by
  have e : bit2 .or .i64 x y = wr .i64 ((BitVec.ofInt 64 x ||| BitVec.ofInt 64 y).toNat : Int) := rfl
  rw [e, BitVec.toNat_or, ofInt_toNat hx.1 (by omega), ofInt_toNat hy.1 (by omega)]
  apply wr_nat_i64
  exact Nat.or_lt_two_pow (n := 63) (by omega) (by omega)
def le : List UInt8 → Nat
  | [] => 0
  | c :: r => c.toNat + 256 * le r
end Go.UM

namespace Go.UM
open Go.AM
set_option maxRecDepth 4000
def z0 : Pl := ⟨0, 0, 0, [], []⟩
def Pl.cd (p : Pl) : Bool := (decide (1 ≤ p.w) && decide (p.w ≤ 64)) && (decide (1 ≤ p.h) && decide (p.h ≤ 64)) && (decide (1 ≤ p.deep) && decide (p.deep ≤ 4)) && named p.name
def Pl.fits (p : Pl) (b : List UInt8) : Bool := b.take (hd p).length == hd p
def dnum (l : List UInt8) (i : Nat) : Int := (l.getD (2 * i) 0).toNat * 256 + (l.getD (2 * i + 1) 0).toNat
def nums (l : List UInt8) (n : Nat) : List Int := (List.range n).map (dnum l)
def pdecO (b : List UInt8) (o : Pl) (rs : List UInt8) : Pl × List UInt8 × Int :=
  if (o.cd && o.fits b) = true then
    if (rs.length : Int) < 2 * (o.w * o.h * o.deep) then (z0, [], 4) else (⟨o.w, o.h, o.deep, o.name, nums rs (o.w * o.h * o.deep).toNat⟩, rs.drop (2 * (o.w * o.h * o.deep).toNat), 0)
  else (z0, [], 5)
def pdec (b : List UInt8) : Pl × List UInt8 × Int := pdecO b (dgo 7 z0 none b).own ((dgo 7 z0 none b).rest.getD [])
theorem decN_ok : ∀ n : Fin 65, 1 ≤ n.val → num (decN n.val) = (n.val : Int) ∧ (decN n.val).all (fun c => c != 10) = true ∧ 1 ≤ (decN n.val).length := by decide
theorem dec_ok {n : Int} (h : 1 ≤ n ∧ n ≤ 64) : num (dec n) = n ∧ (∀ c ∈ dec n, c ≠ 10) ∧ 1 ≤ (dec n).length := by
  have := decN_ok ⟨n.toNat, by omega⟩ (by simp; omega)
  obtain ⟨h1, h2, h3⟩ := this
  refine ⟨by unfold dec; rw [h1]; simp; omega, ?_, h3⟩
  intro c hc
  have := List.all_eq_true.1 h2 c hc
  simpa using this
theorem named_no {s : List UInt8} (h : named s = true) : (∀ c ∈ s, c ≠ 10) ∧ 1 ≤ s.length := by
  unfold named at h
  simp only [Bool.and_eq_true, decide_eq_true_eq, List.all_eq_true] at h
  refine ⟨fun c hc e => ?_, by omega⟩
  subst e
  have := h.1 10 hc
  simp [upper] at this
theorem val_ok {w s : List UInt8} (hs : 1 ≤ s.length) : val (w ++ 32 :: s) w = (s, true) := by
  unfold val
  rw [if_pos ⟨by simp; omega, by simp, by simp [List.getD_eq_getElem?_getD]⟩]
  simp
theorem hd_eq (p : Pl) (r : List UInt8) : hd p ++ r = [80, 55] ++ 10 :: ((wW ++ 32 :: dec p.w) ++ 10 :: ((wH ++ 32 :: dec p.h) ++ 10 :: ((wD ++ 32 :: dec p.deep) ++ 10 ::
    ([77, 65, 88, 86, 65, 76, 32, 54, 53, 53, 51, 53] ++ 10 :: ((wT ++ 32 :: p.name) ++ 10 :: ([69, 78, 68, 72, 68, 82] ++ 10 :: r)))))) := by
  simp [hd, wW, wH, wD, wT]
theorem no_app {a b : List UInt8} (ha : ∀ c ∈ a, c ≠ 10) (hb : ∀ c ∈ b, c ≠ 10) : ∀ c ∈ a ++ b, c ≠ 10 := fun c hc => (List.mem_append.1 hc).elim (ha c) (hb c)
theorem no_cons {a b : List UInt8} (ha : (a.all fun c => c != 10) = true) (hb : ∀ c ∈ b, c ≠ 10) : ∀ c ∈ a ++ 32 :: b, c ≠ 10 := no_app (fun c hc => by simpa using List.all_eq_true.1 ha c hc) fun c hc => by
  rcases List.mem_cons.1 hc with rfl | hc
  · decide
  · exact hb c hc
theorem cut_lit {a r : List UInt8} (h : (a.all fun c => c != 10) = true) : cut (a ++ 10 :: r) = some (a, r) := cut_of fun c hc => by simpa using List.all_eq_true.1 h c hc
theorem cd_iff {p : Pl} : p.cd = true ↔ (1 ≤ p.w ∧ p.w ≤ 64) ∧ (1 ≤ p.h ∧ p.h ≤ 64) ∧ (1 ≤ p.deep ∧ p.deep ≤ 4) ∧ named p.name = true := by
  simp [Pl.cd, and_assoc]
theorem fits_iff {p : Pl} {b : List UInt8} : p.fits b = true ↔ ∃ r, b = hd p ++ r := by
  unfold Pl.fits
  rw [beq_iff_eq]
  constructor
  · intro h
    have := List.take_append_drop (hd p).length b
    rw [h] at this
    exact ⟨_, this.symm⟩
  · rintro ⟨r, rfl⟩
    simp
theorem hd_go {p : Pl} (hp : p.cd = true) (r : List UInt8) : full 7 (hd p ++ r) = true ∧ ∃ t, dgo 7 z0 none (hd p ++ r) = ⟨⟨p.w, p.h, p.deep, p.name, []⟩, some r, 7, t⟩ := by
  obtain ⟨h1, h2, h3, h4⟩ := cd_iff.1 hp
  obtain ⟨w1, w2, w3⟩ := dec_ok h1
  obtain ⟨y1, y2, y3⟩ := dec_ok h2
  obtain ⟨d1, d2, d3⟩ := dec_ok (n := p.deep) ⟨h3.1, by omega⟩
  obtain ⟨n2, n3⟩ := named_no h4
  have c0 := fun x => cut_lit (a := [80, 55]) (r := x) (by decide)
  have c1 := fun x => cut_of (r := x) (no_cons (a := wW) (by decide) w2)
  have c2 := fun x => cut_of (r := x) (no_cons (a := wH) (by decide) y2)
  have c3 := fun x => cut_of (r := x) (no_cons (a := wD) (by decide) d2)
  have c4 := fun x => cut_lit (a := [77, 65, 88, 86, 65, 76, 32, 54, 53, 53, 51, 53]) (r := x) (by decide)
  have c5 := fun x => cut_of (r := x) (no_cons (a := wT) (by decide) n2)
  have c6 := fun x => cut_lit (a := [69, 78, 68, 72, 68, 82]) (r := x) (by decide)
  rw [hd_eq]
  constructor
  · simp only [full, c0, c1, c2, c3, c4, c5, c6]
  · refine ⟨[69, 78, 68, 72, 68, 82] ++ 10 :: r, ?_⟩
    refine ((dgo_some (c0 _) (j := 0) (by decide) _ _).trans <| (dgo_some (c1 _) (j := 1) (by decide) _ _).trans <| (dgo_some (c2 _) (j := 2) (by decide) _ _).trans <| (dgo_some (c3 _) (j := 3) (by decide) _ _).trans <|
      (dgo_some (c4 _) (j := 4) (by decide) _ _).trans <| (dgo_some (c5 _) (j := 5) (by decide) _ _).trans <| dgo_last (c6 _) _ _).trans ?_
    simp [turn, turnW, turnH, turnD, turnT, val_ok w3, val_ok y3, val_ok d3, val_ok n3, w1, y1, d1, z0]
end Go.UM

namespace Go.UM
open Go.AM
set_option maxRecDepth 4000
theorem dgo_rest : ∀ (n : Nat) (o : Pl) (r t : List UInt8), ∃ x, (dgo n o (some r) t).rest = some x
  | 0, _, r, _ => ⟨r, rfl⟩
  | n + 1, o, r, t => by
    rw [dgo]
    cases cut t with
    | none => exact ⟨r, rfl⟩
    | some x => exact dgo_rest n _ _ _
theorem dgo_full : ∀ (n : Nat) (o : Pl) (r : Option (List UInt8)) (t : List UInt8), full n t = true → (dgo n o r t).at' = 7
  | 0, _, _, _, _ => rfl
  | n + 1, o, r, t, h => by
    rw [dgo]
    rw [full] at h
    cases hc : cut t with
    | none => rw [hc] at h; simp at h
    | some x =>
      rw [hc] at h
      obtain ⟨a, q⟩ := x
      cases n with
      | zero => rfl
      | succ m => exact dgo_full (m + 1) _ _ _ h
theorem dgo_nil {b : List UInt8} (h : (dgo 7 z0 none b).rest = none) : cut b = none := by
  cases hc : cut b with
  | none => rfl
  | some x =>
    obtain ⟨a, q⟩ := x
    rw [dgo, hc] at h
    obtain ⟨x, hx⟩ := dgo_rest 6 (turn (6 - 6) z0 a) q (if 6 = 0 then b else q)
    rw [hx] at h
    simp at h
theorem pdecO_bad {b : List UInt8} {o : Pl} {rs : List UInt8} (h : ¬ (o.cd = true ∧ o.fits b = true)) : pdecO b o rs = (z0, [], 5) := by
  unfold pdecO
  rw [if_neg (by simpa using h)]
theorem pdecO_in {b : List UInt8} {o : Pl} {rs : List UInt8} (h1 : o.cd = true) (h2 : o.fits b = true) : pdecO b o rs = if (rs.length : Int) < 2 * (o.w * o.h * o.deep) then (z0, [], 4) else (⟨o.w, o.h, o.deep, o.name, nums rs (o.w * o.h * o.deep).toNat⟩, rs.drop (2 * (o.w * o.h * o.deep).toNat), 0) := by
  unfold pdecO
  rw [if_pos (by rw [h1, h2]; rfl)]
theorem cd_go {b : List UInt8} {o : Pl} (h1 : o.cd = true) (h2 : o.fits b = true) : full 7 b = true := by
  obtain ⟨r, rfl⟩ := fits_iff.1 h2
  exact (hd_go h1 r).1
theorem turn_name {j : Nat} {o : Pl} {a : List UInt8} {B : Nat} (h : o.name.length ≤ B) (ha : a.length ≤ B) : (turn j o a).name.length ≤ B := by
  have := val_len a wT
  unfold turn
  split
  · unfold turnW; split <;> exact h
  · unfold turnH; split <;> exact h
  · unfold turnD; split <;> exact h
  · unfold turnT; split
    · dsimp only; omega
    · exact h
  · exact h
theorem dgo_name {B : Nat} : ∀ (n : Nat) (o : Pl) (r : Option (List UInt8)) (t : List UInt8), o.name.length ≤ B → t.length ≤ B → (dgo n o r t).own.name.length ≤ B
  | 0, _, _, _, h, _ => h
  | n + 1, o, r, t, h, ht => by
    rw [dgo]
    cases hc : cut t with
    | none => exact h
    | some x =>
      obtain ⟨a, q⟩ := x
      have e := congrArg List.length (cut_len hc).1
      simp only [List.length_append, List.length_cons] at e
      refine dgo_name n _ _ _ (turn_name h (by omega)) ?_
      split <;> omega
theorem dgo_rlen {B : Nat} : ∀ (n : Nat) (o : Pl) (r : Option (List UInt8)) (t : List UInt8), (∀ x, r = some x → x.length ≤ B) → t.length ≤ B → ∀ x, (dgo n o r t).rest = some x → x.length ≤ B
  | 0, _, _, _, h, _ => h
  | n + 1, o, r, t, h, ht => by
    rw [dgo]
    cases hc : cut t with
    | none => exact h
    | some x =>
      obtain ⟨a, q⟩ := x
      have e := congrArg List.length (cut_len hc).1
      simp only [List.length_append, List.length_cons] at e
      refine dgo_rlen n _ _ _ (fun x hx => ?_) ?_
      · simp only [Option.some.injEq] at hx
        subst hx; omega
      · split <;> omega
theorem headN_c {R : Env} (h : N381 R) (p : Pl) (hi : p.In) : R.Pc 381 [.agg p.own] (.str (hd p)) :=
  h.o381.enter 100 rfl fun X bb hfit hp => by
    obtain ⟨⟨w0, w1⟩, ⟨h0, h1⟩, ⟨d0, d1⟩, hn⟩ := hi
    have l1 := dec_len p.w
    have l2 := dec_len p.h
    have l3 := dec_len p.deep
    refine sh ?_
    refine ICall.pure h.n393.o393.hb (itoa_c h.n393 p.w (by omega) (by omega)) rfl ?_
    repeat (refine st ?_; refine ⟨by simp only [List.length_append, List.length_cons, List.length_nil]; omega, ?_⟩)
    refine sh ?_
    refine ICall.pure h.n393.o393.hb (itoa_c h.n393 p.h (by omega) (by omega)) rfl ?_
    repeat (refine st ?_; refine ⟨by simp only [List.length_append, List.length_cons, List.length_nil]; omega, ?_⟩)
    refine sh ?_
    refine ICall.pure h.n393.o393.hb (itoa_c h.n393 p.deep (by omega) (by omega)) rfl ?_
    repeat (refine st ?_; refine ⟨by simp only [List.length_append, List.length_cons, List.length_nil]; omega, ?_⟩)
    refine sh ?_
    exact rT
theorem cd_of {o : Pl} (g1 : (decide (1 ≤ o.w) && decide (o.w ≤ 64)) = true) (g2 : (decide (1 ≤ o.h) && decide (o.h ≤ 64)) = true) (g3 : (decide (1 ≤ o.deep) && decide (o.deep ≤ 4)) = true) (g4 : named o.name = true) : o.cd = true := by
  simp only [Pl.cd, g1, g2, g3, g4]; rfl
theorem fits_of {o : Pl} {b : List UInt8} (g : List.take (hd o).length b = hd o) : o.fits b = true := by
  unfold Pl.fits; rw [g]; simp
theorem cd_no {o : Pl} (h : o.cd = true) : (decide (1 ≤ o.w) && decide (o.w ≤ 64)) = true ∧ (decide (1 ≤ o.h) && decide (o.h ≤ 64)) = true ∧ (decide (1 ≤ o.deep) && decide (o.deep ≤ 4)) = true ∧ named o.name = true := by
  simp only [Pl.cd, Bool.and_eq_true] at h ⊢
  exact ⟨h.1.1.1, h.1.1.2, h.1.2, h.2⟩
theorem shl8 : ∀ n : Fin 256, shlI .i64 (n.val : Int) 8 = n.val * 256 := by decide
theorem or2 (x y : UInt8) : bit2 .or .i64 (shlI .i64 (x.toNat : Int) 8) (y.toNat : Int) = (x.toNat : Int) * 256 + y.toNat := by
  have hx := x.toNat_lt
  have hy := y.toNat_lt
  have e := shl8 ⟨x.toNat, by omega⟩
  dsimp only at e
  rw [e, or_i64 ⟨by omega, by omega⟩ ⟨by omega, by omega⟩]
  have h := Nat.two_pow_add_eq_or_of_lt (i := 8) (b := y.toNat) (by omega) x.toNat
  rw [show ((x.toNat : Int) * 256).toNat = 2 ^ 8 * x.toNat by omega, show ((y.toNat : Int)).toNat = y.toNat by omega, ← h]
  omega
theorem dnum_eq {l : List UInt8} {i : Nat} {x y : UInt8} (hx : l[2 * i]? = some x) (hy : l[2 * i + 1]? = some y) : dnum l i = (x.toNat : Int) * 256 + y.toNat := by
  unfold dnum
  rw [List.getD_eq_getElem?_getD, hx, List.getD_eq_getElem?_getD, hy]
  rfl
theorem nums_succ (l : List UInt8) (n : Nat) : nums l (n + 1) = nums l n ++ [dnum l n] := by
  simp [nums, List.range_succ]
theorem nums_len (l : List UInt8) (n : Nat) : (nums l n).length = n := by simp [nums]
theorem hd_le {p : Pl} (hi : p.In) : (hd p).length ≤ 2000 := by
  have l1 := dec_len p.w
  have l2 := dec_len p.h
  have l3 := dec_len p.deep
  have := hi.n
  simp only [hd, List.length_append, List.length_cons, List.length_nil]
  omega
theorem cd_in {o : Pl} (g1 : (decide (1 ≤ o.w) && decide (o.w ≤ 64)) = true) (g2 : (decide (1 ≤ o.h) && decide (o.h ≤ 64)) = true) (g3 : (decide (1 ≤ o.deep) && decide (o.deep ≤ 4)) = true) (g4 : named o.name = true) : o.In := by
  simp only [Bool.and_eq_true, decide_eq_true_eq] at g1 g2 g3
  exact ⟨g1, g2, g3, by have := named_le g4; omega⟩
theorem decode_c {R : Env} (h : N372 R) (b : List UInt8) (hb : b.length ≤ 100000) : R.Pc 372 [.isl 1 (slc8 b)] (.tup [.agg (pdec b).1.row, .isl 1 (slc8 (pdec b).2.1), .int .i64 (pdec b).2.2]) :=
  h.o372.enter 200 rfl fun X bb hfit hp => by
    generalize hq : pdec b = q
    generalize hd' : dgo 7 z0 none b = d
    unfold pdec at hq
    rw [hd'] at hq
    obtain ⟨o, rs, k, t⟩ := d
    dsimp only at hq
    have hnm : o.name.length ≤ 100000 := by
      have := dgo_name (B := 100000) 7 z0 none b (by simp [z0]) hb
      rw [hd'] at this
      exact this
    refine sh ?_
    refine cM false [] (lines_c h.n386 b) ?_
    repeat (intro _; first | refine eK ?_ | refine eP ?_)
    have hrl : ∀ x, rs = some x → x.length ≤ 100000 := fun x hx => by
      have := dgo_rlen (B := 100000) 7 z0 none b (by simp) hb x
      rw [hd'] at this
      exact this hx
    cases hf : full 7 b with
    | true =>
      obtain ⟨rs, rfl⟩ : ∃ x, rs = some x := by
        cases hc : cut b with
        | none => rw [full, hc] at hf; simp at hf
        | some x =>
          obtain ⟨a, q⟩ := x
          rw [dgo, hc] at hd'
          obtain ⟨x, hx⟩ := dgo_rest 6 (turn (6 - 6) z0 a) q (if 6 = 0 then b else q)
          dsimp only at hd'
          rw [hd'] at hx
          exact ⟨x, hx⟩
      obtain rfl : k = 7 := by
        have := dgo_full 7 z0 none b hf
        rw [hd'] at this
        exact this
      rw [Option.getD_some] at hq
      have hrl := hrl rs rfl
      refine sh ?_
      refine cLB 0 (args0 := fun l tm => [.clo (.lp l tm) [.loc 0 1 0 0, .loc 1 1 0 0, .loc 2 1 0 0, .loc 4 1 0 0], .loc 5 1 0 0]) 100 false [1, 2, 4, 3, 5, 6] h.n386.n395.o395.hb (fun l r hlp => linesB_c h.n386.n395 h hlp b (by omega) z0 hf hd') ?_
      repeat (intro _; first | refine eK ?_ | refine eP ?_)
      refine sh ?_
      refine ICall.pure h.n157.o157.hb (between_c h.n157 o.w 1 64) rfl ?_
      refine sh ?_
      refine cS (fun g1 => ?_) (fun g1 => ?_)
      · rw [pdecO_bad fun hh => by rw [(cd_no hh.1).1] at g1; simp at g1] at hq
        subst hq
        refine sh ?_
        exact rT
      · refine sh ?_
        refine ICall.pure h.n157.o157.hb (between_c h.n157 o.h 1 64) rfl ?_
        refine sh ?_
        refine cS (fun g2 => ?_) (fun g2 => ?_)
        · rw [pdecO_bad fun hh => by rw [(cd_no hh.1).2.1] at g2; simp at g2] at hq
          subst hq
          refine sh ?_
          exact rT
        · refine sh ?_
          refine ICall.pure h.n157.o157.hb (between_c h.n157 o.deep 1 4) rfl ?_
          refine sh ?_
          refine cS (fun g3 => ?_) (fun g3 => ?_)
          · rw [pdecO_bad fun hh => by rw [(cd_no hh.1).2.2.1] at g3; simp at g3] at hq
            subst hq
            refine sh ?_
            exact rT
          · refine sh ?_
            refine ICall.pure h.n158.o158.hb (named_c h.n158 o.name (by omega)) rfl ?_
            refine sh ?_
            refine cS (fun g4 => ?_) (fun g4 => ?_)
            · rw [pdecO_bad fun hh => by rw [(cd_no hh.1).2.2.2] at g4; simp at g4] at hq
              subst hq
              refine sh ?_
              exact rT
            · refine sh ?_
              refine ICall.pure h.n381.o381.hb (headN_c h.n381 o (cd_in g1 g2 g3 g4)) rfl ?_
              have hle := hd_le (cd_in g1 g2 g3 g4)
              refine sh ?_
              refine ICall.let [7] rfl hp rfl ?_
              repeat ((intro _u; clear _u); first | refine eZ ?_ | refine eZ ?_ (by simp; omega) | refine FrzC.drop ?_)
              refine sh ?_
              refine ICall.pure h.n389.o389.hb (hasp_c h.n389 b (hd o)) rfl ?_
              refine sh ?_
              refine cS (fun g5 => ?_) (fun g5 => ?_)
              · rw [pdecO_bad fun hh => g5 (by have := hh.2; unfold Pl.fits at this; simpa using this)] at hq
                subst hq
                refine sh ?_
                exact rT
              · rw [pdecO_in (cd_of g1 g2 g3 g4) (fits_of g5)] at hq
                have hin := cd_in g1 g2 g3 g4
                obtain ⟨⟨w0, w1⟩, ⟨y0, y1⟩, ⟨d0, d1⟩, _⟩ := hin
                have b1 : 1 ≤ o.w * o.h ∧ o.w * o.h ≤ 4096 := ⟨by have := Int.mul_le_mul w0 y0 (by omega) (by omega); omega, by have := Int.mul_le_mul w1 y1 (by omega) (by omega); omega⟩
                have b2 : 1 ≤ o.w * o.h * o.deep ∧ o.w * o.h * o.deep ≤ 16384 := ⟨by have := Int.mul_le_mul b1.1 d0 (by omega) (by omega); omega, by have := Int.mul_le_mul b1.2 d1 (by omega) (by omega); omega⟩
                obtain ⟨N, hN⟩ : ∃ N : Nat, o.w * o.h * o.deep = N := ⟨(o.w * o.h * o.deep).toNat, by omega⟩
                rw [hN] at hq b2
                refine sh ?_
                refine cS (fun g6 => ?_) (fun g6 => ?_)
                · rw [hN] at g6
                  rw [if_pos g6] at hq
                  subst hq
                  refine sh ?_
                  exact rT
                · rw [hN] at g6 ⊢
                  rw [if_neg (by omega)] at hq
                  have hl : 2 * N ≤ rs.length := by omega
                  refine sh ?_
                  refine ILoop.one 100 ?_
                  refine sh ?_
                  refine acnd_t (by simp; omega) ?_
                  obtain ⟨x, hx⟩ : ∃ x, rs[2 * 0]? = some x := ⟨_, List.getElem?_eq_getElem (by omega)⟩
                  obtain ⟨y, hy⟩ : ∃ y, rs[2 * 0 + 1]? = some y := ⟨_, List.getElem?_eq_getElem (by omega)⟩
                  have hx8 := x.toNat_lt
                  have hy8 := y.toNat_lt
                  refine sh ?_
                  refine eget_map hx ?_
                  refine sh ?_
                  refine eget_map hy ?_
                  have e0 := or2 x y
                  have e1 := dnum_eq hx hy
                  refine sh ?_
                  refine ILoop.inv 100 (fun k : Nat => 1 ≤ k ∧ k ≤ N) (fun k => ⟨[(2, .loc 0 1 0 0), (3, .loc 1 1 0 0), (7, .loc 5 1 0 0), (12, .int .i64 N), (108, .int .i64 N), (109, .int .i64 k)], [(0, .var (R.ty 20) [.int .i64 0, .int .i64 0, .int .i64 0, .str [], .nils]), (1, .var (R.ty 51) [.isl 1 (slc8 rs)]), (5, .var (R.ty 20) [.int .i64 o.w, .int .i64 o.h, .int .i64 o.deep, .str o.name, .osl 9 (nums rs k).length]), (9, .arr (R.ty 10) 1 (slcK .i64 (nums rs k)))], 10⟩) (fun k => N - k) (1) ?_ ⟨⟨_, hp, rfl⟩, ?_, ?_⟩ ?_
                  · exact ⟨Nat.le_refl _, by omega⟩
                  · all_goals repeat' (first | exact True.intro | refine And.intro ?_ ?_ | (intro _u; clear _u) | (with_reducible first | exact DnLe.fg | refine eM ?_ ?_ | refine eF ?_ ?_ ?_ | refine eN ?_ | refine eL ?_ ?_ ?_ | refine eA ?_ ?_ | refine IWk.mk ⟨_, hp, rfl⟩ ?_ ?_) | refine IWk.mk ⟨_, hp, rfl⟩ ?_ ?_)
                    all_goals try first | with_reducible rfl | omega | exact .inl (by decide) | (simp; done) | rfl
                    all_goals (rw [show nums rs 1 = [dnum rs 0] from rfl, e1, ← e0]; rfl)
                  · all_goals repeat' (first | exact True.intro | refine And.intro ?_ ?_ | (intro _u; clear _u) | (with_reducible first | exact DnLe.fg | refine eM ?_ ?_ | refine eF ?_ ?_ ?_ | refine eN ?_ | refine eL ?_ ?_ ?_ | refine eA ?_ ?_ | refine IWk.mk ⟨_, hp, rfl⟩ ?_ ?_) | refine IWk.mk ⟨_, hp, rfl⟩ ?_ ?_)
                    all_goals try first | with_reducible rfl | omega | exact .inl (by decide) | (simp; done) | rfl
                    all_goals (rw [show nums rs 1 = [dnum rs 0] from rfl, e1, ← e0]; rfl)
                  · clear hx hy e0 e1 hx8 hy8
                    intro k hk
                    dsimp only
                    refine sh ?_
                    refine cS (fun g7 => ?_) (fun g7 => ?_)
                    · obtain ⟨x, hx⟩ : ∃ x, rs[2 * k]? = some x := ⟨_, List.getElem?_eq_getElem (by omega)⟩
                      obtain ⟨y, hy⟩ : ∃ y, rs[2 * k + 1]? = some y := ⟨_, List.getElem?_eq_getElem (by omega)⟩
                      have hx8 := x.toNat_lt
                      have hy8 := y.toNat_lt
                      have e1 := nums_succ rs k
                      rw [dnum_eq hx hy, ← or2] at e1
                      have e3 := nums_len rs k
                      refine sh ?_
                      refine eget_map (x := x) (by rw [show (2 * (k : Int)).toNat = 2 * k by omega]; exact hx) ?_
                      refine sh ?_
                      refine eget_map (x := y) (by rw [show (2 * (k : Int) + 1).toNat = 2 * k + 1 by omega]; exact hy) ?_
                      generalize nums rs k = C at e1 e3 ⊢
                      refine sh ?_
                      refine nX (k + 1) ?_ ?_ ⟨_, hp, rfl⟩ ?_ ?_
                      · omega
                      · omega
                      · all_goals repeat' (first | exact True.intro | refine And.intro ?_ ?_ | (intro _u; clear _u) | (with_reducible first | exact DnLe.fg | refine eM ?_ ?_ | refine eF ?_ ?_ ?_ | refine eN ?_ | refine eL ?_ ?_ ?_ | refine eA ?_ ?_ | refine IWk.mk ⟨_, hp, rfl⟩ ?_ ?_) | refine IWk.mk ⟨_, hp, rfl⟩ ?_ ?_)
                        all_goals try first | with_reducible rfl | omega | exact .inl (by decide) | (simp; done) | rfl
                        all_goals (rw [e1]; simp [slcK])
                      · all_goals repeat' (first | exact True.intro | refine And.intro ?_ ?_ | (intro _u; clear _u) | (with_reducible first | exact DnLe.fg | refine eM ?_ ?_ | refine eF ?_ ?_ ?_ | refine eN ?_ | refine eL ?_ ?_ ?_ | refine eA ?_ ?_ | refine IWk.mk ⟨_, hp, rfl⟩ ?_ ?_) | refine IWk.mk ⟨_, hp, rfl⟩ ?_ ?_)
                        all_goals try first | with_reducible rfl | omega | exact .inl (by decide) | (simp; done) | rfl
                        all_goals (rw [e1]; simp [slcK])
                    · obtain rfl : k = N := by omega
                      refine sh ?_
                      refine asub_eq (by exact (show List.drop (2 * (k : Int)).toNat (slc8 rs) = slc8 (rs.drop (2 * k)) by rw [show (2 * (k : Int)).toNat = 2 * k by omega, slc8_drop])) ?_
                      refine sh ?_
                      refine ICall.pure h.n390.o390.hb (bclone_c h.n390 (rs.drop (2 * k)) (by simp; omega)) rfl ?_
                      subst hq
                      refine sh ?_
                      exact rT
    | false =>
      have hno : pdecO b o (rs.getD []) = (z0, [], 5) := pdecO_bad fun hh => by rw [cd_go hh.1 hh.2] at hf; simp at hf
      rw [hno] at hq
      subst hq
      cases rs with
      | none =>
        have hc := dgo_nil (b := b) (by rw [hd'])
        have e := dgo_none hc (j := 0) (by decide) z0 none
        rw [show 7 - 0 = 7 from rfl, hd'] at e
        simp only [Dr.mk.injEq] at e
        obtain ⟨rfl, _, rfl, rfl⟩ := e
        refine sh ?_
        refine cL (args0 := fun l tm => [.clo (.lp l tm) [.loc 0 1 0 0, .loc 1 1 0 0, .loc 2 1 0 0, .loc 4 1 0 0], .loc 5 1 0 0]) 100 false [1, 2, 4, 3, 5, 6] h.n386.n395.o395.hb (fun l r hlp => lines0_c h.n386.n395 hlp t z0 hc) ?_
        repeat (intro _; first | refine eK ?_ | refine eP ?_)
        refine sh ?_
        refine ICall.pure h.n157.o157.hb (between_c h.n157 z0.w 1 64) rfl ?_
        refine sh ?_
        refine cS (fun g1 => ?_) (fun g1 => ?_)
        · refine sh ?_
          exact rT
        · simp [z0] at g1
      | some rs =>
        refine sh ?_
        refine cL (args0 := fun l tm => [.clo (.lp l tm) [.loc 0 1 0 0, .loc 1 1 0 0, .loc 2 1 0 0, .loc 4 1 0 0], .loc 5 1 0 0]) 100 false [1, 2, 4, 3, 5, 6] h.n386.n395.o395.hb (fun l r hlp => lines1_c h.n386.n395 h hlp b (by omega) z0 hf hd') ?_
        repeat (intro _; first | refine eK ?_ | refine eP ?_)
        refine sh ?_
        refine ICall.pure h.n157.o157.hb (between_c h.n157 o.w 1 64) rfl ?_
        refine sh ?_
        refine cS (fun g1 => ?_) (fun g1 => ?_)
        · refine sh ?_
          exact rT
        · refine sh ?_
          refine ICall.pure h.n157.o157.hb (between_c h.n157 o.h 1 64) rfl ?_
          refine sh ?_
          refine cS (fun g2 => ?_) (fun g2 => ?_)
          · refine sh ?_
            exact rT
          · refine sh ?_
            refine ICall.pure h.n157.o157.hb (between_c h.n157 o.deep 1 4) rfl ?_
            refine sh ?_
            refine cS (fun g3 => ?_) (fun g3 => ?_)
            · refine sh ?_
              exact rT
            · refine sh ?_
              refine ICall.pure h.n158.o158.hb (named_c h.n158 o.name (by omega)) rfl ?_
              refine sh ?_
              refine cS (fun g4 => ?_) (fun g4 => ?_)
              · refine sh ?_
                exact rT
              · refine sh ?_
                refine ICall.pure h.n381.o381.hb (headN_c h.n381 o (cd_in g1 g2 g3 g4)) rfl ?_
                have hle := hd_le (cd_in g1 g2 g3 g4)
                refine sh ?_
                refine ICall.let [7] rfl hp rfl ?_
                repeat ((intro _u; clear _u); first | refine eZ ?_ | refine eZ ?_ (by simp; omega) | refine FrzC.drop ?_)
                refine sh ?_
                refine ICall.pure h.n389.o389.hb (hasp_c h.n389 b (hd o)) rfl ?_
                refine sh ?_
                refine cS (fun g5 => ?_) (fun g5 => ?_)
                · refine sh ?_
                  exact rT
                · exact absurd (cd_go (b := b) (cd_of g1 g2 g3 g4) (fits_of g5)) (by rw [hf]; decide)
end Go.UM
