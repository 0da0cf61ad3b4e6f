/- A part of the proof of a statement of this seat: the machine on which the program is read, and what it computes; for every input. -/
import Derived.Test.YtikiipfbkfgmbaaGreatDoorM04
set_option linter.all false
namespace Go.Am
open Go
variable [MaxLen]
set_option maxRecDepth 100000
/-- strobe/stroberef04.digits; results .tmp 2 -/
def r134 : RC := (.seq (.ops [⟨some 2, none, none, false, .mov (.v (.str []))⟩]) (.seq (.seq (.ops [⟨some 3, none, none, false, .mov (.t 0)⟩,
  ⟨some 4, none, none, false, .bin .lss 3 true (.t 3) (.v (.int .i64 10))⟩]) (.cond (.t 4) (.seq (.ops [⟨some 5, none, none, false, .mov (.t 0)⟩,
  ⟨some 6, none, none, false, .bin .add 3 true (.v (.int .i64 48)) (.t 5)⟩,
  ⟨some 7, none, none, false, .raw (.convert 3 5 (.tmp 6))⟩,
  ⟨some 8, none, none, false, .bsl 5 1 1 [(.int .u8 0)] [(0, 1, (.t 7))]⟩,
  ⟨some 9, none, none, false, .raw (.convert 205 9 (.tmp 8))⟩,
  ⟨some 2, none, none, false, .mov (.t 9)⟩]) .ret) .skip)) (.seq (.drw 11 [⟨some 10, none, none, false, .mov (.t 0)⟩,
  ⟨some 11, none, none, false, .bin .quo 3 true (.t 10) (.v (.int .i64 10))⟩,
  ⟨some 12, none, none, false, .call 134 [(.t 11)]⟩,
  ⟨some 13, none, none, false, .mov (.t 0)⟩,
  ⟨some 14, none, none, false, .bin .rem 3 true (.t 13) (.v (.int .i64 10))⟩,
  ⟨some 15, none, none, false, .bin .add 3 true (.v (.int .i64 48)) (.t 14)⟩,
  ⟨some 16, none, none, false, .raw (.convert 3 5 (.tmp 15))⟩,
  ⟨some 17, none, some 7, false, .bsl 5 1 1 [(.int .u8 0)] [(0, 1, (.t 16))]⟩,
  ⟨some 18, none, none, false, .raw (.convert 205 9 (.tmp 17))⟩,
  ⟨some 19, none, none, false, .bin .add 9 false (.t 12) (.t 18)⟩,
  ⟨some 2, none, none, false, .mov (.t 19)⟩]) .ret)))
theorem k134 : fnRC 134 = some ([.tmp 2], r134) := by kernel_rfl

def r135_l0 : RC := (.seq (.seq (.ops [⟨some 54, none, none, false, .mov (.t 6)⟩,
  ⟨some 55, none, none, false, .fa 6 (.t 1)⟩,
  ⟨some 56, none, none, false, .ld1 (.t 55)⟩,
  ⟨some 57, none, none, false, .lenL (.t 56)⟩,
  ⟨some 58, none, none, false, .bin .lss 3 false (.t 54) (.t 57)⟩]) (.cond (.t 58) .skip (.exit 0))) (.seq (.block 1 (.seq (.seq (.ops [⟨some 61, none, none, false, .mov (.t 6)⟩,
  ⟨some 62, none, none, false, .bin .eql 3 true (.t 61) (.v (.int .i64 0))⟩]) (.cond (.t 62) (.ops [⟨some 63, none, none, false, .mov (.t 5)⟩,
  ⟨some 64, none, none, false, .bin .add 9 true (.t 63) (.v (.str [40]))⟩,
  ⟨some 5, none, none, false, .mov (.t 64)⟩]) (.ops [⟨some 65, none, none, false, .mov (.t 5)⟩,
  ⟨some 66, none, none, false, .bin .add 9 true (.t 65) (.v (.str [44, 32]))⟩,
  ⟨some 5, none, none, false, .mov (.t 66)⟩]))) (.ops [⟨some 67, none, none, false, .mov (.t 5)⟩,
  ⟨some 68, none, none, false, .fa 6 (.t 1)⟩,
  ⟨some 69, none, none, false, .ld1 (.t 68)⟩,
  ⟨some 70, none, none, false, .mov (.t 6)⟩,
  ⟨some 71, none, none, false, .ixa 7 (.t 69) (.t 70)⟩,
  ⟨some 72, none, none, false, .ldn 7 (.t 71)⟩,
  ⟨some 73, none, none, false, .call 135 [(.t 72)]⟩,
  ⟨some 74, none, none, false, .bin .add 9 false (.t 67) (.t 73)⟩,
  ⟨some 5, none, none, false, .mov (.t 74)⟩]))) (.ops [⟨some 59, none, none, false, .mov (.t 6)⟩,
  ⟨some 60, none, none, false, .bin .add 3 true (.t 59) (.v (.int .i64 1))⟩,
  ⟨some 6, none, none, false, .mov (.t 60)⟩])))
/-- strobe/stroberef04.print; results .tmp 2 -/
def r135 : RC := (.seq (.ops [⟨some 1, none, none, false, .box 39 (.t 0)⟩,
  ⟨some 2, none, none, false, .mov (.v (.str []))⟩]) (.seq (.ops [⟨some 8, none, none, false, .fa 0 (.t 1)⟩,
  ⟨some 9, none, none, false, .ld1 (.t 8)⟩,
  ⟨some 10, none, none, false, .call 95 [(.t 9)]⟩,
  ⟨some 7, none, none, false, .mov (.t 10)⟩,
  ⟨some 11, none, none, false, .ext (.t 7) 0⟩,
  ⟨some 12, none, none, false, .ext (.t 7) 1⟩,
  ⟨some 3, none, none, false, .al [(.bool false), (.bool false), (.bool false), (.bool false), (.bool false), (.bool false)] 160⟩,
  ⟨none, none, none, false, .st 6 (.t 3) (.t 11)⟩,
  ⟨some 4, none, none, false, .mov (.t 12)⟩]) (.seq (.ops [⟨some 13, none, none, false, .fa 0 (.t 1)⟩,
  ⟨some 14, none, none, false, .ld1 (.t 13)⟩,
  ⟨some 5, none, none, false, .mov (.t 14)⟩]) (.seq (.seq (.ops [⟨some 15, none, none, false, .ixp 6 1 (.t 3) (.v (.int .i64 0))⟩,
  ⟨some 16, none, none, false, .ld1 (.t 15)⟩]) (.cond (.t 16) (.ops [⟨some 17, none, none, false, .mov (.t 5)⟩,
  ⟨some 18, none, none, false, .fa 1 (.t 1)⟩,
  ⟨some 19, none, none, false, .ld1 (.t 18)⟩,
  ⟨some 20, none, none, false, .call 134 [(.t 19)]⟩,
  ⟨some 21, none, none, false, .bin .add 9 true (.v (.str [32])) (.t 20)⟩,
  ⟨some 22, none, none, false, .bin .add 9 false (.t 17) (.t 21)⟩,
  ⟨some 5, none, none, false, .mov (.t 22)⟩]) .skip)) (.seq (.seq (.ops [⟨some 23, none, none, false, .ixp 6 1 (.t 3) (.v (.int .i64 1))⟩,
  ⟨some 24, none, none, false, .ld1 (.t 23)⟩]) (.cond (.t 24) (.ops [⟨some 25, none, none, false, .mov (.t 5)⟩,
  ⟨some 26, none, none, false, .fa 2 (.t 1)⟩,
  ⟨some 27, none, none, false, .ld1 (.t 26)⟩,
  ⟨some 28, none, none, false, .call 134 [(.t 27)]⟩,
  ⟨some 29, none, none, false, .bin .add 9 true (.v (.str [32])) (.t 28)⟩,
  ⟨some 30, none, none, false, .bin .add 9 false (.t 25) (.t 29)⟩,
  ⟨some 5, none, none, false, .mov (.t 30)⟩]) .skip)) (.seq (.seq (.ops [⟨some 31, none, none, false, .ixp 6 1 (.t 3) (.v (.int .i64 2))⟩,
  ⟨some 32, none, none, false, .ld1 (.t 31)⟩]) (.cond (.t 32) (.ops [⟨some 33, none, none, false, .mov (.t 5)⟩,
  ⟨some 34, none, none, false, .fa 3 (.t 1)⟩,
  ⟨some 35, none, none, false, .ld1 (.t 34)⟩,
  ⟨some 36, none, none, false, .call 134 [(.t 35)]⟩,
  ⟨some 37, none, none, false, .bin .add 9 true (.v (.str [32])) (.t 36)⟩,
  ⟨some 38, none, none, false, .bin .add 9 false (.t 33) (.t 37)⟩,
  ⟨some 5, none, none, false, .mov (.t 38)⟩]) .skip)) (.seq (.seq (.ops [⟨some 39, none, none, false, .ixp 6 1 (.t 3) (.v (.int .i64 3))⟩,
  ⟨some 40, none, none, false, .ld1 (.t 39)⟩]) (.cond (.t 40) (.ops [⟨some 41, none, none, false, .mov (.t 5)⟩,
  ⟨some 42, none, none, false, .fa 4 (.t 1)⟩,
  ⟨some 43, none, none, false, .ld1 (.t 42)⟩,
  ⟨some 44, none, none, false, .call 134 [(.t 43)]⟩,
  ⟨some 45, none, none, false, .bin .add 9 true (.v (.str [32])) (.t 44)⟩,
  ⟨some 46, none, none, false, .bin .add 9 false (.t 41) (.t 45)⟩,
  ⟨some 5, none, none, false, .mov (.t 46)⟩]) .skip)) (.seq (.seq (.ops [⟨some 47, none, none, false, .ixp 6 1 (.t 3) (.v (.int .i64 4))⟩,
  ⟨some 48, none, none, false, .ld1 (.t 47)⟩]) (.cond (.t 48) (.ops [⟨some 49, none, none, false, .mov (.t 5)⟩,
  ⟨some 50, none, none, false, .fa 5 (.t 1)⟩,
  ⟨some 51, none, none, false, .ld1 (.t 50)⟩,
  ⟨some 52, none, none, false, .bin .add 9 true (.v (.str [32])) (.t 51)⟩,
  ⟨some 53, none, none, false, .bin .add 9 false (.t 49) (.t 52)⟩,
  ⟨some 5, none, none, false, .mov (.t 53)⟩]) .skip)) (.seq (.seq (.ops [⟨some 6, none, none, false, .mov (.v (.int .i64 0))⟩]) (.block 0 (.loop r135_l0))) (.seq (.seq (.ops [⟨some 75, none, none, false, .ixp 6 1 (.t 3) (.v (.int .i64 5))⟩,
  ⟨some 76, none, none, false, .ld1 (.t 75)⟩]) (.cond (.t 76) (.ops [⟨some 77, none, none, false, .mov (.t 5)⟩,
  ⟨some 78, none, none, false, .bin .add 9 true (.t 77) (.v (.str [41]))⟩,
  ⟨some 5, none, none, false, .mov (.t 78)⟩]) .skip)) (.seq (.ops [⟨some 79, none, none, false, .mov (.t 5)⟩,
  ⟨some 2, none, none, false, .mov (.t 79)⟩]) .ret)))))))))))
theorem k135 : fnRC 135 = some ([.tmp 2], r135) := by kernel_rfl

def r67_l0 : RC := (.seq (.seq (.ops [⟨some 12, none, none, false, .mov (.t 5)⟩,
  ⟨some 13, none, none, false, .fa 1 (.t 1)⟩,
  ⟨some 14, none, none, false, .ld1 (.t 13)⟩,
  ⟨some 15, none, none, false, .lenL (.t 14)⟩,
  ⟨some 16, none, none, false, .bin .lss 3 false (.t 12) (.t 15)⟩]) (.cond (.t 16) .skip (.exit 0))) (.seq (.block 1 (.seq (.ops [⟨some 19, none, none, false, .fa 1 (.t 1)⟩,
  ⟨some 20, none, none, false, .ld1 (.t 19)⟩,
  ⟨some 21, none, none, false, .mov (.t 5)⟩,
  ⟨some 22, none, none, false, .ixa 9 (.t 20) (.t 21)⟩,
  ⟨some 23, none, none, false, .ldn 9 (.t 22)⟩,
  ⟨some 6, none, none, false, .al [(.str []), (.int .i64 0), (.int .i64 0), (.int .i64 0), (.int .i64 0), (.str []), .nils, (.int .i64 0), (.int .i64 0)] 90⟩,
  ⟨none, none, none, false, .st 9 (.t 6) (.t 23)⟩]) (.seq (.ops [⟨some 24, none, none, false, .mov (.t 4)⟩,
  ⟨some 25, none, none, false, .fa 0 (.t 6)⟩,
  ⟨some 26, none, none, false, .ldn 7 (.t 25)⟩,
  ⟨some 27, none, none, false, .call 135 [(.t 26)]⟩,
  ⟨some 28, none, none, false, .bin .add 9 true (.v (.str [32])) (.t 27)⟩,
  ⟨some 29, none, none, false, .bin .add 9 false (.t 24) (.t 28)⟩,
  ⟨some 4, none, none, false, .mov (.t 29)⟩]) (.seq (.seq (.ops [⟨some 30, none, none, false, .fa 7 (.t 6)⟩,
  ⟨some 31, none, none, false, .ld1 (.t 30)⟩,
  ⟨some 32, none, none, false, .bin .neq 3 true (.t 31) (.v (.int .i64 1))⟩]) (.cond (.t 32) (.ops [⟨some 33, none, none, false, .mov (.t 4)⟩,
  ⟨some 34, none, none, false, .fa 7 (.t 6)⟩,
  ⟨some 35, none, none, false, .ld1 (.t 34)⟩,
  ⟨some 36, none, none, false, .call 134 [(.t 35)]⟩,
  ⟨some 37, none, none, false, .bin .add 9 true (.v (.str [32, 116, 105, 109, 101, 115, 32])) (.t 36)⟩,
  ⟨some 38, none, none, false, .bin .add 9 false (.t 33) (.t 37)⟩,
  ⟨some 4, none, none, false, .mov (.t 38)⟩]) .skip)) (.seq (.seq (.ops [⟨some 39, none, none, false, .fa 8 (.t 6)⟩,
  ⟨some 40, none, none, false, .ld1 (.t 39)⟩,
  ⟨some 41, none, none, false, .bin .neq 3 true (.t 40) (.v (.int .i64 0))⟩]) (.cond (.t 41) (.ops [⟨some 42, none, none, false, .mov (.t 4)⟩,
  ⟨some 43, none, none, false, .fa 8 (.t 6)⟩,
  ⟨some 44, none, none, false, .ld1 (.t 43)⟩,
  ⟨some 45, none, none, false, .call 134 [(.t 44)]⟩,
  ⟨some 46, none, none, false, .bin .add 9 true (.v (.str [32, 119, 105, 116, 104, 105, 110, 32])) (.t 45)⟩,
  ⟨some 47, none, none, false, .bin .add 9 false (.t 42) (.t 46)⟩,
  ⟨some 4, none, none, false, .mov (.t 47)⟩]) .skip)) (.ops [⟨some 48, none, none, false, .mov (.t 4)⟩,
  ⟨some 49, none, none, false, .bin .add 9 true (.t 48) (.v (.str [59]))⟩,
  ⟨some 4, none, none, false, .mov (.t 49)⟩])))))) (.ops [⟨some 17, none, none, false, .mov (.t 5)⟩,
  ⟨some 18, none, none, false, .bin .add 3 true (.t 17) (.v (.int .i64 1))⟩,
  ⟨some 5, none, none, false, .mov (.t 18)⟩])))
/-- strobe/stroberef04.Print; results .tmp 2,.tmp 3 -/
def r67 : RC := (.seq (.ops [⟨some 1, none, none, false, .box 31 (.t 0)⟩,
  ⟨some 2, none, none, false, .mov (.v (.str []))⟩,
  ⟨some 3, none, none, false, .mov (.v (.int .i64 0))⟩]) (.seq (.ops [⟨some 7, none, none, false, .fa 0 (.t 1)⟩,
  ⟨some 8, none, none, false, .ld1 (.t 7)⟩,
  ⟨some 9, none, none, false, .call 134 [(.t 8)]⟩,
  ⟨some 10, none, none, false, .bin .add 9 true (.v (.str [108, 105, 110, 101, 115, 32])) (.t 9)⟩,
  ⟨some 11, none, none, false, .bin .add 9 true (.t 10) (.v (.str [59]))⟩,
  ⟨some 4, none, none, false, .mov (.t 11)⟩]) (.seq (.seq (.ops [⟨some 5, none, none, false, .mov (.v (.int .i64 0))⟩]) (.block 0 (.loop r67_l0))) (.seq (.seq (.ops [⟨some 50, none, none, false, .mov (.t 4)⟩,
  ⟨some 51, none, none, false, .lenS (.t 50)⟩,
  ⟨some 52, none, none, false, .bin .gtr 3 true (.t 51) (.v (.int .i64 4096))⟩]) (.cond (.t 52) (.seq (.ops [⟨some 2, none, none, false, .mov (.v (.str []))⟩,
  ⟨some 3, none, none, false, .mov (.v (.int .i64 26))⟩]) .ret) .skip)) (.seq (.ops [⟨some 53, none, none, false, .mov (.t 4)⟩,
  ⟨some 2, none, none, false, .mov (.t 53)⟩,
  ⟨some 3, none, none, false, .mov (.v (.int .i64 0))⟩]) .ret)))))
theorem k67 : fnRC 67 = some ([.tmp 2, .tmp 3], r67) := by kernel_rfl

def r128_l0 : RC := (.seq (.ops [⟨some 39, none, none, false, .bin .lss 3 false (.t 38) (.t 37)⟩]) (.seq (.cond (.t 39) .skip (.exit 0)) (.seq (.block 1 (.seq (.ops [⟨some 40, none, none, false, .ixa 2 (.t 36) (.t 38)⟩,
  ⟨some 41, none, none, false, .ldn 2 (.t 40)⟩,
  ⟨some 6, none, none, false, .al [(.bool false), (.int .i64 0)] 266⟩,
  ⟨none, none, none, false, .st 2 (.t 6) (.t 41)⟩]) (.seq (.ops [⟨some 42, none, none, false, .fa 0 (.t 6)⟩,
  ⟨some 43, none, none, false, .ld1 (.t 42)⟩]) (.cond (.t 43) (.ops [⟨some 44, none, none, false, .mov (.t 3)⟩,
  ⟨some 45, none, none, false, .fa 1 (.t 6)⟩,
  ⟨some 46, none, none, false, .ld1 (.t 45)⟩,
  ⟨some 47, none, none, false, .call 127 [(.t 46)]⟩,
  ⟨some 48, none, none, false, .bsl 9 1 1 [(.str [])] [(0, 1, (.t 47))]⟩,
  ⟨some 49, none, none, false, .app 9 1 16 (.t 44) (.t 48)⟩,
  ⟨some 3, none, none, false, .mov (.t 49)⟩]) .skip)))) (.ops [⟨some 50, none, none, false, .bin .add 3 true (.t 38) (.v (.int .i64 1))⟩,
  ⟨some 38, none, none, false, .mov (.t 50)⟩]))))
def r128_l1 : RC := (.seq (.ops [⟨some 62, none, none, false, .bin .lss 3 false (.t 61) (.t 60)⟩]) (.seq (.cond (.t 62) .skip (.exit 2)) (.seq (.block 3 (.seq (.ops [⟨some 63, none, none, false, .mov (.t 61)⟩,
  ⟨some 64, none, none, false, .ixa 7 (.t 59) (.t 61)⟩,
  ⟨some 65, none, none, false, .ldn 7 (.t 64)⟩,
  ⟨some 8, none, none, false, .al [(.str []), (.int .i64 0), (.int .i64 0), (.int .i64 0), (.int .i64 0), (.str []), .nils] 48⟩,
  ⟨some 7, none, none, false, .mov (.t 63)⟩,
  ⟨none, none, none, false, .st 7 (.t 8) (.t 65)⟩]) (.seq (.ops [⟨some 66, none, none, false, .mov (.t 3)⟩,
  ⟨some 67, none, none, false, .bsl 9 1 2 [(.str []), (.str [])] [(0, 1, (.v (.str [40]))), (1, 1, (.v (.str [44])))]⟩,
  ⟨some 68, none, none, false, .mov (.t 7)⟩,
  ⟨some 69, none, none, false, .raw (.call { callee := .builtin .min, args := #[(.tmp 68), (.const (.int .i64 1))], argTypes := #[3, 3] })⟩,
  ⟨some 70, none, none, false, .ixa 1 (.t 67) (.t 69)⟩,
  ⟨some 71, none, none, false, .ld1 (.t 70)⟩,
  ⟨some 72, none, none, false, .bsl 9 1 1 [(.str [])] [(0, 1, (.t 71))]⟩,
  ⟨some 73, none, none, false, .app 9 1 16 (.t 66) (.t 72)⟩,
  ⟨some 3, none, none, false, .mov (.t 73)⟩]) (.ops [⟨some 74, none, none, false, .mov (.t 3)⟩,
  ⟨some 75, none, none, false, .ldn 7 (.t 8)⟩,
  ⟨some 76, none, none, false, .call 128 [(.t 75)]⟩,
  ⟨some 77, none, none, false, .app 9 1 16 (.t 74) (.t 76)⟩,
  ⟨some 3, none, none, false, .mov (.t 77)⟩])))) (.ops [⟨some 78, none, none, false, .bin .add 3 true (.t 61) (.v (.int .i64 1))⟩,
  ⟨some 61, none, none, false, .mov (.t 78)⟩]))))
/-- (strobe/trigger.Cond).tokens; results .tmp 2 -/
def r128 : RC := (.seq (.ops [⟨some 1, none, none, false, .box 48 (.t 0)⟩,
  ⟨some 2, none, none, false, .mov (.v .nils)⟩]) (.seq (.ops [⟨some 9, none, none, false, .fa 0 (.t 1)⟩,
  ⟨some 10, none, none, false, .ld1 (.t 9)⟩,
  ⟨some 11, none, none, false, .bsl 9 1 1 [(.str [])] [(0, 1, (.t 10))]⟩,
  ⟨some 3, none, none, false, .mov (.t 11)⟩]) (.seq (.drw 6 [⟨some 12, none, none, false, .call 156 []⟩,
  ⟨some 13, none, none, false, .fa 0 (.t 1)⟩,
  ⟨some 14, none, none, false, .ld1 (.t 13)⟩,
  ⟨some 15, none, none, false, .raw (.lookup 238 (.tmp 12) (.tmp 14) false)⟩,
  ⟨some 4, none, some 4, false, .al [(.bool false), (.bool false), (.bool false), (.bool false), (.bool false), (.bool false), .nilfn, .nilfn, .nilfn] 236⟩,
  ⟨none, none, none, true, .st 9 (.t 4) (.t 15)⟩]) (.seq (.seq (.ops [⟨some 16, none, none, false, .fa 0 (.t 4)⟩,
  ⟨some 17, none, none, false, .ld1 (.t 16)⟩,
  ⟨some 18, none, none, false, .fa 1 (.t 1)⟩,
  ⟨some 19, none, none, false, .ld1 (.t 18)⟩,
  ⟨some 20, none, none, false, .bld [(.bool false), (.int .i64 0)] [(0, 1, (.t 17)), (1, 1, (.t 19))]⟩,
  ⟨some 21, none, none, false, .fa 1 (.t 4)⟩,
  ⟨some 22, none, none, false, .ld1 (.t 21)⟩,
  ⟨some 23, none, none, false, .fa 2 (.t 1)⟩,
  ⟨some 24, none, none, false, .ld1 (.t 23)⟩,
  ⟨some 25, none, none, false, .bld [(.bool false), (.int .i64 0)] [(0, 1, (.t 22)), (1, 1, (.t 24))]⟩,
  ⟨some 26, none, none, false, .fa 2 (.t 4)⟩,
  ⟨some 27, none, none, false, .ld1 (.t 26)⟩,
  ⟨some 28, none, none, false, .fa 3 (.t 1)⟩,
  ⟨some 29, none, none, false, .ld1 (.t 28)⟩,
  ⟨some 30, none, none, false, .bld [(.bool false), (.int .i64 0)] [(0, 1, (.t 27)), (1, 1, (.t 29))]⟩,
  ⟨some 31, none, none, false, .fa 3 (.t 4)⟩,
  ⟨some 32, none, none, false, .ld1 (.t 31)⟩,
  ⟨some 33, none, none, false, .fa 4 (.t 1)⟩,
  ⟨some 34, none, none, false, .ld1 (.t 33)⟩,
  ⟨some 35, none, none, false, .bld [(.bool false), (.int .i64 0)] [(0, 1, (.t 32)), (1, 1, (.t 34))]⟩,
  ⟨some 36, none, none, false, .bsl 266 2 4 [(.bool false), (.int .i64 0), (.bool false), (.int .i64 0), (.bool false), (.int .i64 0), (.bool false), (.int .i64 0)] [(0, 2, (.t 20)), (2, 2, (.t 25)), (4, 2, (.t 30)), (6, 2, (.t 35))]⟩,
  ⟨some 37, none, none, false, .lenL (.t 36)⟩,
  ⟨some 38, none, none, false, .mov (.v (.int .i64 0))⟩]) (.block 0 (.loop r128_l0))) (.seq (.seq (.ops [⟨some 51, none, none, false, .fa 4 (.t 4)⟩,
  ⟨some 52, none, none, false, .ld1 (.t 51)⟩]) (.cond (.t 52) (.ops [⟨some 53, none, none, false, .mov (.t 3)⟩,
  ⟨some 54, none, none, false, .fa 5 (.t 1)⟩,
  ⟨some 55, none, none, false, .ld1 (.t 54)⟩,
  ⟨some 56, none, none, false, .bsl 9 1 1 [(.str [])] [(0, 1, (.t 55))]⟩,
  ⟨some 57, none, none, false, .app 9 1 16 (.t 53) (.t 56)⟩,
  ⟨some 3, none, none, false, .mov (.t 57)⟩]) .skip)) (.seq (.seq (.ops [⟨some 58, none, none, false, .fa 6 (.t 1)⟩,
  ⟨some 59, none, none, false, .ld1 (.t 58)⟩,
  ⟨some 60, none, none, false, .lenL (.t 59)⟩,
  ⟨some 61, none, none, false, .mov (.v (.int .i64 0))⟩]) (.block 2 (.loop r128_l1))) (.seq (.seq (.ops [⟨some 79, none, none, false, .fa 5 (.t 4)⟩,
  ⟨some 80, none, none, false, .ld1 (.t 79)⟩]) (.cond (.t 80) (.ops [⟨some 81, none, none, false, .mov (.t 3)⟩,
  ⟨some 82, none, none, false, .bsl 9 1 1 [(.str [])] [(0, 1, (.v (.str [41])))]⟩,
  ⟨some 83, none, none, false, .app 9 1 16 (.t 81) (.t 82)⟩,
  ⟨some 3, none, none, false, .mov (.t 83)⟩]) .skip)) (.seq (.ops [⟨some 84, none, none, false, .mov (.t 3)⟩,
  ⟨some 2, none, none, false, .mov (.t 84)⟩]) .ret))))))))
theorem k128 : fnRC 128 = some ([.tmp 2], r128) := by kernel_rfl

/-- strings.Contains; results .tmp 4 -/
def r129 : RC := (.seq (.ops [⟨some 4, none, none, false, .mov (.v (.bool false))⟩]) (.seq (.ops [⟨some 5, none, none, false, .mov (.t 0)⟩,
  ⟨some 6, none, none, false, .mov (.t 1)⟩,
  ⟨some 7, none, none, false, .call 181 [(.t 5), (.t 6)]⟩,
  ⟨some 8, none, none, false, .bin .geq 3 true (.t 7) (.v (.int .i64 0))⟩,
  ⟨some 4, none, none, false, .mov (.t 8)⟩]) .ret))
theorem k129 : fnRC 129 = some ([.tmp 4], r129) := by kernel_rfl

/-- (*strings.Builder).WriteByte; results .tmp 4 -/
def r130 : RC := (.seq (.ops [⟨some 4, none, none, false, .mov (.v .nili)⟩]) (.seq (.ops [⟨some 5, none, none, false, .mov (.t 0)⟩,
  ⟨some 6, none, none, false, .call 182 [(.t 5)]⟩]) (.seq (.ops [⟨some 7, none, none, false, .mov (.t 0)⟩,
  ⟨some 8, none, none, false, .mov (.t 0)⟩,
  ⟨some 9, none, none, false, .raw (.nilCheck (.tmp 8))⟩,
  ⟨some 10, none, none, false, .fa 1 (.t 9)⟩,
  ⟨some 11, none, none, false, .ld1 (.t 10)⟩,
  ⟨some 12, none, none, false, .mov (.t 1)⟩,
  ⟨some 13, none, none, false, .bsl 5 1 1 [(.int .u8 0)] [(0, 1, (.t 12))]⟩,
  ⟨some 14, none, none, false, .app 5 1 1 (.t 11) (.t 13)⟩,
  ⟨some 15, none, none, false, .raw (.nilCheck (.tmp 7))⟩,
  ⟨some 16, none, none, false, .fa 1 (.t 15)⟩,
  ⟨none, none, none, false, .st 1 (.t 16) (.t 14)⟩]) (.seq (.ops [⟨some 4, none, none, false, .mov (.v .nili)⟩]) .ret))))
theorem k130 : fnRC 130 = some ([.tmp 4], r130) := by kernel_rfl

/-- (*strings.Builder).WriteString; results .tmp 4,.tmp 5 -/
def r131 : RC := (.seq (.ops [⟨some 4, none, none, false, .mov (.v (.int .i64 0))⟩,
  ⟨some 5, none, none, false, .mov (.v .nili)⟩]) (.seq (.ops [⟨some 6, none, none, false, .mov (.t 0)⟩,
  ⟨some 7, none, none, false, .call 182 [(.t 6)]⟩]) (.seq (.ops [⟨some 8, none, none, false, .mov (.t 0)⟩,
  ⟨some 9, none, none, false, .mov (.t 0)⟩,
  ⟨some 10, none, none, false, .raw (.nilCheck (.tmp 9))⟩,
  ⟨some 11, none, none, false, .fa 1 (.t 10)⟩,
  ⟨some 12, none, none, false, .ld1 (.t 11)⟩,
  ⟨some 13, none, none, false, .mov (.t 1)⟩,
  ⟨some 14, none, none, false, .app 5 1 1 (.t 12) (.t 13)⟩,
  ⟨some 15, none, none, false, .raw (.nilCheck (.tmp 8))⟩,
  ⟨some 16, none, none, false, .fa 1 (.t 15)⟩,
  ⟨none, none, none, false, .st 1 (.t 16) (.t 14)⟩]) (.seq (.ops [⟨some 17, none, none, false, .mov (.t 1)⟩,
  ⟨some 18, none, none, false, .lenS (.t 17)⟩,
  ⟨some 4, none, none, false, .mov (.t 18)⟩,
  ⟨some 5, none, none, false, .mov (.v .nili)⟩]) .ret))))
theorem k131 : fnRC 131 = some ([.tmp 4, .tmp 5], r131) := by kernel_rfl

/-- (*strings.Builder).Len; results .tmp 2 -/
def r132 : RC := (.seq (.ops [⟨some 2, none, none, false, .mov (.v (.int .i64 0))⟩]) (.seq (.ops [⟨some 3, none, none, false, .mov (.t 0)⟩,
  ⟨some 4, none, none, false, .raw (.nilCheck (.tmp 3))⟩,
  ⟨some 5, none, none, false, .fa 1 (.t 4)⟩,
  ⟨some 6, none, none, false, .ld1 (.t 5)⟩,
  ⟨some 7, none, none, false, .lenL (.t 6)⟩,
  ⟨some 2, none, none, false, .mov (.t 7)⟩]) .ret))
theorem k132 : fnRC 132 = some ([.tmp 2], r132) := by kernel_rfl

def r66_l0 : RC := (.seq (.ops [⟨some 24, none, none, false, .bin .lss 3 false (.t 23) (.t 22)⟩]) (.seq (.cond (.t 24) .skip (.exit 0)) (.seq (.block 1 (.seq (.ops [⟨some 25, none, none, false, .ixa 9 (.t 21) (.t 23)⟩,
  ⟨some 26, none, none, false, .ldn 9 (.t 25)⟩,
  ⟨some 7, none, none, false, .al [(.str []), (.int .i64 0), (.int .i64 0), (.int .i64 0), (.int .i64 0), (.str []), .nils, (.int .i64 0), (.int .i64 0)] 144⟩,
  ⟨none, none, none, false, .st 9 (.t 7) (.t 26)⟩]) (.seq (.ops [⟨some 27, none, none, false, .mov (.t 5)⟩,
  ⟨some 28, none, none, false, .fa 0 (.t 7)⟩,
  ⟨some 29, none, none, false, .ldn 7 (.t 28)⟩,
  ⟨some 30, none, none, false, .call 128 [(.t 29)]⟩,
  ⟨some 31, none, none, false, .app 9 1 16 (.t 27) (.t 30)⟩,
  ⟨some 5, none, none, false, .mov (.t 31)⟩]) (.seq (.seq (.ops [⟨some 32, none, none, false, .fa 7 (.t 7)⟩,
  ⟨some 33, none, none, false, .ld1 (.t 32)⟩,
  ⟨some 34, none, none, false, .bin .neq 3 true (.t 33) (.v (.int .i64 1))⟩]) (.cond (.t 34) (.ops [⟨some 35, none, none, false, .mov (.t 5)⟩,
  ⟨some 36, none, none, false, .fa 7 (.t 7)⟩,
  ⟨some 37, none, none, false, .ld1 (.t 36)⟩,
  ⟨some 38, none, none, false, .call 127 [(.t 37)]⟩,
  ⟨some 39, none, none, false, .bsl 9 1 2 [(.str []), (.str [])] [(0, 1, (.v (.str [116, 105, 109, 101, 115]))), (1, 1, (.t 38))]⟩,
  ⟨some 40, none, none, false, .app 9 1 16 (.t 35) (.t 39)⟩,
  ⟨some 5, none, none, false, .mov (.t 40)⟩]) .skip)) (.seq (.seq (.ops [⟨some 41, none, none, false, .fa 8 (.t 7)⟩,
  ⟨some 42, none, none, false, .ld1 (.t 41)⟩,
  ⟨some 43, none, none, false, .bin .neq 3 true (.t 42) (.v (.int .i64 0))⟩]) (.cond (.t 43) (.ops [⟨some 44, none, none, false, .mov (.t 5)⟩,
  ⟨some 45, none, none, false, .fa 8 (.t 7)⟩,
  ⟨some 46, none, none, false, .ld1 (.t 45)⟩,
  ⟨some 47, none, none, false, .call 127 [(.t 46)]⟩,
  ⟨some 48, none, none, false, .bsl 9 1 2 [(.str []), (.str [])] [(0, 1, (.v (.str [119, 105, 116, 104, 105, 110]))), (1, 1, (.t 47))]⟩,
  ⟨some 49, none, none, false, .app 9 1 16 (.t 44) (.t 48)⟩,
  ⟨some 5, none, none, false, .mov (.t 49)⟩]) .skip)) (.ops [⟨some 50, none, none, false, .mov (.t 5)⟩,
  ⟨some 51, none, none, false, .bsl 9 1 1 [(.str [])] [(0, 1, (.v (.str [59])))]⟩,
  ⟨some 52, none, none, false, .app 9 1 16 (.t 50) (.t 51)⟩,
  ⟨some 5, none, none, false, .mov (.t 52)⟩])))))) (.ops [⟨some 53, none, none, false, .bin .add 3 true (.t 23) (.v (.int .i64 1))⟩,
  ⟨some 23, none, none, false, .mov (.t 53)⟩]))))
def r66_l1 : RC := (.seq (.ops [⟨some 57, none, none, false, .bin .lss 3 false (.t 56) (.t 55)⟩]) (.seq (.cond (.t 57) .skip (.exit 2)) (.seq (.block 3 (.seq (.ops [⟨some 58, none, none, false, .mov (.t 56)⟩,
  ⟨some 59, none, none, false, .ixa 1 (.t 54) (.t 56)⟩,
  ⟨some 60, none, none, false, .ld1 (.t 59)⟩,
  ⟨some 9, none, none, false, .mov (.t 58)⟩,
  ⟨some 10, none, none, false, .mov (.t 60)⟩]) (.seq (.seq (.ops [⟨some 61, none, none, false, .mov (.t 9)⟩,
  ⟨some 62, none, none, false, .bin .gtr 3 true (.t 61) (.v (.int .i64 0))⟩,
  ⟨some 63, none, none, false, .mov (.t 62)⟩,
  ⟨some 64, some (63, true), none, false, .mov (.t 10)⟩,
  ⟨some 65, some (63, true), none, false, .call 129 [(.v (.str [41, 44, 59, 40])), (.t 64)]⟩,
  ⟨some 66, some (63, true), none, false, .un .not (.t 65)⟩,
  ⟨some 67, none, none, false, .pick (.t 63) (.t 66) (.v (.bool false))⟩,
  ⟨some 68, none, none, false, .mov (.t 67)⟩,
  ⟨some 69, some (68, true), none, false, .mov (.t 5)⟩,
  ⟨some 70, some (68, true), none, false, .mov (.t 9)⟩,
  ⟨some 71, some (68, true), none, false, .bin .sub 3 true (.t 70) (.v (.int .i64 1))⟩,
  ⟨some 72, some (68, true), none, false, .ixa 1 (.t 69) (.t 71)⟩,
  ⟨some 73, some (68, true), none, false, .ld1 (.t 72)⟩,
  ⟨some 74, some (68, true), none, false, .bin .neq 9 true (.t 73) (.v (.str [40]))⟩,
  ⟨some 75, none, none, false, .pick (.t 68) (.t 74) (.v (.bool false))⟩]) (.cond (.t 75) (.ops [⟨some 76, none, none, false, .call 130 [(.t 8), (.v (.int .u8 32))]⟩]) .skip)) (.ops [⟨some 77, none, none, false, .mov (.t 10)⟩,
  ⟨some 78, none, none, false, .call 131 [(.t 8), (.t 77)]⟩])))) (.ops [⟨some 79, none, none, false, .bin .add 3 true (.t 56) (.v (.int .i64 1))⟩,
  ⟨some 56, none, none, false, .mov (.t 79)⟩]))))
/-- strobe/trigger.Print; results .tmp 2,.tmp 3 -/
def r66 : RC := (.seq (.ops [⟨some 1, none, none, false, .box 25 (.t 0)⟩,
  ⟨some 2, none, none, false, .mov (.v (.str []))⟩,
  ⟨some 3, none, none, false, .mov (.v (.int .i64 0))⟩]) (.seq (.seq (.ops [⟨some 11, none, none, false, .ldn 2 (.t 1)⟩,
  ⟨some 12, none, none, false, .call 64 [(.t 11)]⟩,
  ⟨some 4, none, none, false, .mov (.t 12)⟩]) (.seq (.ops [⟨some 13, none, none, false, .mov (.t 4)⟩,
  ⟨some 14, none, none, false, .bin .neq 26 true (.t 13) (.v (.int .i64 0))⟩]) (.cond (.t 14) (.seq (.ops [⟨some 15, none, none, false, .mov (.t 4)⟩,
  ⟨some 2, none, none, false, .mov (.v (.str []))⟩,
  ⟨some 3, none, none, false, .mov (.t 15)⟩]) .ret) .skip))) (.seq (.ops [⟨some 16, none, none, false, .fa 0 (.t 1)⟩,
  ⟨some 17, none, none, false, .ld1 (.t 16)⟩,
  ⟨some 18, none, none, false, .call 127 [(.t 17)]⟩,
  ⟨some 19, none, none, false, .bsl 9 1 3 [(.str []), (.str []), (.str [])] [(0, 1, (.v (.str [108, 105, 110, 101, 115]))), (1, 1, (.t 18)), (2, 1, (.v (.str [59])))]⟩,
  ⟨some 5, none, none, false, .mov (.t 19)⟩]) (.seq (.seq (.ops [⟨some 20, none, none, false, .fa 1 (.t 1)⟩,
  ⟨some 21, none, none, false, .ld1 (.t 20)⟩,
  ⟨some 22, none, none, false, .lenL (.t 21)⟩,
  ⟨some 23, none, none, false, .mov (.v (.int .i64 0))⟩]) (.block 0 (.loop r66_l0))) (.seq (.ops [⟨some 8, none, none, false, .al [.nilp, .nils] 207⟩]) (.seq (.seq (.ops [⟨some 54, none, none, false, .mov (.t 5)⟩,
  ⟨some 55, none, none, false, .lenL (.t 54)⟩,
  ⟨some 56, none, none, false, .mov (.v (.int .i64 0))⟩]) (.block 2 (.loop r66_l1))) (.seq (.seq (.ops [⟨some 80, none, none, false, .call 132 [(.t 8)]⟩,
  ⟨some 81, none, none, false, .bin .gtr 3 true (.t 80) (.v (.int .i64 4096))⟩]) (.cond (.t 81) (.seq (.ops [⟨some 2, none, none, false, .mov (.v (.str []))⟩,
  ⟨some 3, none, none, false, .mov (.v (.int .i64 26))⟩]) .ret) .skip)) (.seq (.ops [⟨some 82, none, none, false, .call 133 [(.t 8)]⟩,
  ⟨some 2, none, none, false, .mov (.t 82)⟩,
  ⟨some 3, none, none, false, .mov (.v (.int .i64 0))⟩]) .ret))))))))
theorem k66 : fnRC 66 = some ([.tmp 2, .tmp 3], r66) := by kernel_rfl

/-- strobe/strobelaw04.integer; results .tmp 8 -/
def r54 : RC := (.seq (.ops [⟨some 8, none, none, false, .mov (.v (.bool false))⟩]) (.seq (.seq (.ops [⟨some 9, none, none, false, .mov (.t 2)⟩,
  ⟨some 10, none, none, false, .bin .neq 3 true (.t 9) (.v (.int .i64 0))⟩]) (.cond (.t 10) (.seq (.ops [⟨some 11, none, none, false, .mov (.t 0)⟩,
  ⟨some 12, none, none, false, .bin .eql 3 true (.t 11) (.v (.int .i64 0))⟩,
  ⟨some 13, none, none, false, .mov (.t 12)⟩,
  ⟨some 14, some (13, true), none, false, .mov (.t 1)⟩,
  ⟨some 15, some (13, true), none, false, .mov (.t 2)⟩,
  ⟨some 16, some (13, true), none, false, .bin .eql 3 false (.t 14) (.t 15)⟩,
  ⟨some 17, none, none, false, .pick (.t 13) (.t 16) (.v (.bool false))⟩,
  ⟨some 8, none, none, false, .mov (.t 17)⟩]) .ret) .skip)) (.seq (.ops [⟨some 18, none, none, false, .mov (.t 1)⟩,
  ⟨some 19, none, none, false, .bin .eql 26 true (.t 18) (.v (.int .i64 0))⟩,
  ⟨some 20, none, none, false, .mov (.t 19)⟩,
  ⟨some 21, some (20, true), none, false, .mov (.t 0)⟩,
  ⟨some 22, some (20, true), none, false, .mov (.t 3)⟩,
  ⟨some 23, some (20, true), none, false, .bin .eql 3 false (.t 21) (.t 22)⟩,
  ⟨some 24, none, none, false, .pick (.t 20) (.t 23) (.v (.bool false))⟩,
  ⟨some 8, none, none, false, .mov (.t 24)⟩]) .ret)))
theorem k54 : fnRC 54 = some ([.tmp 8], r54) := by kernel_rfl

/-- strobe/strobelaw04.TriggerPrograms; results .tmp 2 -/
def r11 : RC := (.seq (.ops [⟨some 1, none, none, false, .box 31 (.t 0)⟩,
  ⟨some 2, none, none, false, .mov (.v (.bool false))⟩]) (.seq (.seq (.ops [⟨some 11, none, none, false, .call 16 []⟩,
  ⟨some 12, none, none, false, .un .not (.t 11)⟩,
  ⟨some 13, none, none, false, .mov (.t 12)⟩,
  ⟨some 14, some (13, false), none, false, .ldn 2 (.t 1)⟩,
  ⟨some 15, some (13, false), none, false, .call 31 [(.t 14), (.v (.int .i64 20))]⟩,
  ⟨some 16, some (13, false), none, false, .un .not (.t 15)⟩,
  ⟨some 17, none, none, false, .pick (.t 13) (.v (.bool true)) (.t 16)⟩]) (.cond (.t 17) (.seq (.ops [⟨some 18, none, none, false, .call 16 []⟩,
  ⟨some 2, none, none, false, .mov (.t 18)⟩]) .ret) .skip)) (.seq (.ops [⟨some 19, none, none, false, .ldn 2 (.t 1)⟩,
  ⟨some 20, none, none, false, .call 34 [(.t 19)]⟩,
  ⟨some 3, none, none, false, .mov (.t 20)⟩]) (.seq (.seq (.ops [⟨some 21, none, none, false, .ldn 2 (.t 1)⟩,
  ⟨some 22, none, none, false, .call 33 [(.t 21)]⟩,
  ⟨some 23, none, none, false, .call 64 [(.t 22)]⟩,
  ⟨some 24, none, none, false, .mov (.t 3)⟩,
  ⟨some 25, none, none, false, .bin .neq 3 false (.t 23) (.t 24)⟩]) (.cond (.t 25) (.seq (.ops [⟨some 2, none, none, false, .mov (.v (.bool false))⟩]) .ret) .skip)) (.seq (.ops [⟨some 27, none, none, false, .ldn 2 (.t 1)⟩,
  ⟨some 28, none, none, false, .call 33 [(.t 27)]⟩,
  ⟨some 29, none, none, false, .call 65 [(.t 28)]⟩,
  ⟨some 26, none, none, false, .mov (.t 29)⟩,
  ⟨some 30, none, none, false, .ext (.t 26) 0⟩,
  ⟨some 31, none, none, false, .ext (.t 26) 1⟩,
  ⟨some 4, none, none, false, .mov (.t 30)⟩,
  ⟨some 5, none, none, false, .mov (.t 31)⟩]) (.seq (.ops [⟨some 33, none, none, false, .ldn 2 (.t 1)⟩,
  ⟨some 34, none, none, false, .call 33 [(.t 33)]⟩,
  ⟨some 35, none, none, false, .call 66 [(.t 34)]⟩,
  ⟨some 32, none, none, false, .mov (.t 35)⟩,
  ⟨some 36, none, none, false, .ext (.t 32) 0⟩,
  ⟨some 37, none, none, false, .ext (.t 32) 1⟩,
  ⟨some 6, none, none, false, .mov (.t 36)⟩,
  ⟨some 7, none, none, false, .mov (.t 37)⟩]) (.seq (.ops [⟨some 38, none, none, false, .mov (.t 3)⟩,
  ⟨some 8, none, none, false, .mov (.v (.int .i64 0))⟩,
  ⟨some 9, none, none, false, .mov (.v (.str []))⟩,
  ⟨some 10, none, none, false, .mov (.t 38)⟩]) (.seq (.seq (.ops [⟨some 39, none, none, false, .mov (.t 3)⟩,
  ⟨some 40, none, none, false, .bin .eql 3 true (.t 39) (.v (.int .i64 0))⟩]) (.cond (.t 40) (.seq (.ops [⟨some 41, none, none, false, .ldn 2 (.t 1)⟩,
  ⟨some 42, none, none, false, .call 38 [(.t 41)]⟩,
  ⟨some 8, none, none, false, .mov (.t 42)⟩]) (.ops [⟨some 44, none, none, false, .ldn 2 (.t 1)⟩,
  ⟨some 45, none, none, false, .call 67 [(.t 44)]⟩,
  ⟨some 43, none, none, false, .mov (.t 45)⟩,
  ⟨some 46, none, none, false, .ext (.t 43) 0⟩,
  ⟨some 47, none, none, false, .ext (.t 43) 1⟩,
  ⟨some 9, none, none, false, .mov (.t 46)⟩,
  ⟨some 10, none, none, false, .mov (.t 47)⟩])) .skip)) (.seq (.ops [⟨some 48, none, none, false, .mov (.t 4)⟩,
  ⟨some 49, none, none, false, .mov (.t 5)⟩,
  ⟨some 50, none, none, false, .mov (.t 3)⟩,
  ⟨some 51, none, none, false, .mov (.t 8)⟩,
  ⟨some 52, none, none, false, .call 54 [(.t 48), (.t 49), (.t 50), (.t 51)]⟩,
  ⟨some 53, none, none, false, .mov (.t 52)⟩,
  ⟨some 54, some (53, true), none, false, .mov (.t 6)⟩,
  ⟨some 55, some (53, true), none, false, .mov (.t 9)⟩,
  ⟨some 56, some (53, true), none, false, .bin .eql 9 false (.t 54) (.t 55)⟩,
  ⟨some 57, none, none, false, .pick (.t 53) (.t 56) (.v (.bool false))⟩,
  ⟨some 58, none, none, false, .mov (.t 57)⟩,
  ⟨some 59, some (58, true), none, false, .mov (.t 7)⟩,
  ⟨some 60, some (58, true), none, false, .mov (.t 10)⟩,
  ⟨some 61, some (58, true), none, false, .bin .eql 3 false (.t 59) (.t 60)⟩,
  ⟨some 62, none, none, false, .pick (.t 58) (.t 61) (.v (.bool false))⟩,
  ⟨some 2, none, none, false, .mov (.t 62)⟩]) .ret)))))))))
theorem k11 : fnRC 11 = some ([.tmp 2], r11) := by kernel_rfl

/-- strobe/strobelaw04.when; results .tmp 4 -/
def r37 : RC := (.seq (.ops [⟨some 4, none, none, false, .mov (.v (.int .i64 0))⟩]) (.seq (.seq (.ops [⟨some 5, none, none, false, .mov (.t 0)⟩]) (.cond (.t 5) (.seq (.ops [⟨some 6, none, none, false, .mov (.t 1)⟩,
  ⟨some 4, none, none, false, .mov (.t 6)⟩]) .ret) .skip)) (.seq (.ops [⟨some 4, none, none, false, .mov (.v (.int .i64 0))⟩]) .ret)))
theorem k37 : fnRC 37 = some ([.tmp 4], r37) := by kernel_rfl

end Go.Am

set_option linter.all false
namespace Go.Am
open Go
variable [MaxLen]
set_option maxRecDepth 100000
set_option maxHeartbeats 8000000

def bytesK (x : Option (List AV)) (s : St) : Option (AV × St) := match x with
  | some r => match loadBytesA r with
    | some bs => some (.str bs, s)
    | none => none
  | none => none
def convBS (v : Option AV) (s : St) (r : Option (AV × St)) : Option (AV × St) := match v with
  | some (.sl b o len _ _) => bytesK (match cellsOf (s.get b) with | some c => grab len o c | none => none) s
  | some (.fz es) => bytesK (some es) s
  | _ => r
theorem conv_205_9 (ex : Ex) (e : Env) (x : Operand) (s : St) : opA U ex e (.convert 205 9 x) s = convBS (eval U e x) s (opA U ex e (.convert 205 9 x) s) := by
  have h1 : U.und 205 = some (.slice 5) := by kernel_rfl
  have h2 : U.und 9 = some .string := by kernel_rfl
  have h3 : U.und 5 = some (.int .u8) := und_5
  unfold convBS
  split
  · rename_i b o len c z hv
    simp only [opA, hv, convA, h1, h2, h3, ← cells_get, bytesK]
    cases s.cells b with
    | none => rfl
    | some c => simp only; cases grab len o c <;> rfl
  · rename_i es hv
    simp only [opA, hv, convA, h1, h2, h3, bytesK]
    rfl
  · rfl
@[congr] theorem convBS_congr {v v' : Option AV} {s : St} {r : Option (AV × St)} (h : v = v') : convBS v s r = convBS v' s r := by rw [h]
theorem convBS_sl (b o len : Nat) (c : Option Nat) (z : Nat) (s : St) (r : Option (AV × St)) : convBS (some (.sl b o len c z)) s r = bytesK (match cellsOf (s.get b) with | some c => grab len o c | none => none) s := (fun h => h) rfl
theorem bytesK_some (r : List AV) (s : St) : bytesK (some r) s = (match loadBytesA r with | some bs => some (.str bs, s) | none => none) := (fun h => h) rfl
theorem loadBytes_one (c : UInt8) : loadBytesA [.int .u8 (c.toNat : Int)] = some [c] := by
  simp only [loadBytesA, Int.toNat_natCast, UInt8.ofNat_toNat]
attribute [go_sem ↓ high] conv_205_9
attribute [go_sem] convBS_sl bytesK_some loadBytes_one

def digs (n : Nat) : Str := if n < 10 then [UInt8.ofNat (48 + n)] else digs (n / 10) ++ [UInt8.ofNat (48 + n % 10)]
termination_by n
decreasing_by omega
theorem digs_small {n : Nat} (h : n < 10) : digs n = [UInt8.ofNat (48 + n)] := by rw [digs, if_pos h]
theorem digs_big {n : Nat} (h : ¬ n < 10) : digs n = digs (n / 10) ++ [UInt8.ofNat (48 + n % 10)] := by rw [digs, if_neg h]
theorem digs_len : ∀ (k n : Nat), n < 10 ^ (k + 1) → (digs n).length ≤ k + 1 := by
  intro k
  induction k with
  | zero => intro n h; rw [digs_small (by omega)]; simp
  | succ k ih =>
    intro n h
    by_cases hn : n < 10
    · rw [digs_small hn]; simp
    · rw [digs_big hn, List.length_append]
      have := ih (n / 10) (by rw [Nat.pow_succ] at h; omega)
      simp only [List.length_singleton]; omega
theorem bin_quo10 (X : Cx) (t : TypeId) (c : Bool) (n : Nat) (h : n < 2 ^ 62) : binA X .quo t c (.int .i64 (n : Int)) (.int .i64 10) = some (.int .i64 ((n / 10 : Nat) : Int)) := by
  have e : ((n : Int).tdiv 10) = ((n / 10 : Nat) : Int) := by
    rw [Int.tdiv_eq_ediv_of_nonneg (by omega)]; omega
  simp only [binA, intA, e, if_true]
  rw [if_neg (by decide), wrap_i64 (n := ((n / 10 : Nat) : Int)) (by omega) (by omega)]
theorem bin_rem10 (X : Cx) (t : TypeId) (c : Bool) (n : Nat) : binA X .rem t c (.int .i64 (n : Int)) (.int .i64 10) = some (.int .i64 ((n % 10 : Nat) : Int)) := by
  have e : ((n : Int).tmod 10) = ((n % 10 : Nat) : Int) := by
    rw [Int.tmod_eq_emod_of_nonneg (by omega)]; omega
  simp only [binA, intA, e, if_true]
  rw [if_neg (by decide)]
theorem bin_sadd (X : Cx) (t : TypeId) (c : Bool) (x y : Str) (h : x.length + y.length < 2 ^ 62) : binA X .add t c (.str x) (.str y) = some (.str (x ++ y)) := by
  simp only [binA, strA]
  rw [if_pos h]
theorem digit_wrap (d : Nat) (h : d < 10) : IntKind.u8.wrap (IntKind.i64.wrap (48 + (d : Int))) = ((UInt8.ofNat (48 + d)).toNat : Int) := by
  rw [wrap_i64 (by omega) (by omega)]
  have : (UInt8.ofNat (48 + d)).toNat = 48 + d := by
    rw [UInt8.toNat_ofNat']; omega
  rw [this, IntKind.wrap_u8]
  omega
theorem nat_lt_10 (n : Nat) : decide ((n : Int) < 10) = decide (n < 10) := by congr 1; apply propext; omega
theorem c134 : ∀ n : Nat, n < 10 ^ 9 → calV U 134 [.int .i64 (n : Int)] = some (.str (digs n)) := by
  intro n
  induction n using Nat.strongRecOn with
  | ind n ih =>
  intro hn
  refine pure_go k134 (by kernel_rfl) rfl ?_
  by_cases h : n < 10
  · rw [digs_small h]
    simp +contextual only [go_sem, ↓reduceIte, r134, nat_lt_10, h, digit_wrap n h]
  · have ih' := ih (n / 10) (by omega) (by omega)
    have hl := digs_len 9 (n / 10) (by omega)
    rw [digs_big h]
    simp +contextual only [go_sem, ↓reduceIte, r134, nat_lt_10, h, bin_quo10 U _ _ n (by omega), bin_rem10, digit_wrap (n % 10) (by omega), ih', bin_sadd U _ _ (digs (n / 10)) [UInt8.ofNat (48 + n % 10)] (by simp; omega)]
end Go.Am

set_option linter.all false
namespace Go.Am
open Go
variable [MaxLen]
set_option maxRecDepth 100000
set_option maxHeartbeats 8000000

/-! # The reference's printer -/

def strO (z : Str) : Option AV := if z.length < 2 ^ 62 then some (.str z) else none
theorem bin_sadd' (X : Cx) (t : TypeId) (c : Bool) (x y : Str) : binA X .add t c (.str x) (.str y) = strO (x ++ y) := by
  simp only [binA, strA, strO, List.length_append]
theorem bndG_strO {X : Cx} {β : Type} (fin : Fl → β) (ks : List K) (base : Nat) (z : Str) (s : St) (d : Option Nat) (l : List RO) (e : Env) :
    bndG X fin ks base (pureO (strO z) s) d l e = br (decide (z.length < 2 ^ 62)) (goO X fin ks base l (setDst e d (.str z)) s) (fin none) := by
  unfold strO
  by_cases h : z.length < 2 ^ 62
  · rw [if_pos h, decide_eq_true h, br_true]; rfl
  · rw [if_neg h, decide_eq_false h, br_false]; exact stuck_eq X fin ks
theorem br_ok {β : Type} {p : Bool} {x y r : β} (h : p = true) (hx : x = r) : br p x y = r := by rw [h, br_true, hx]
attribute [go_sem] bin_sadd' bndG_strO

def dg (n : Int) : Str := digs n.toNat
theorem c134' {n : Int} (h0 : 0 ≤ n) (h1 : n ≤ 255) : calV U 134 [.int .i64 n] = some (.str (dg n)) := by
  obtain ⟨k, rfl⟩ := Int.eq_ofNat_of_zero_le h0
  exact c134 k (by omega)
theorem dg_len {n : Int} (h1 : n ≤ 255) : (dg n).length ≤ 3 := digs_len 2 n.toNat (by omega)

def tokOk : Str → Bool
  | c :: _ => !(c == 40 || c == 41 || c == 44 || c == 59)
  | [] => false
theorem kd_str {k : Str} (h : (kdOf k).known = true) : k = kdStr (kdOf k) := by
  obtain ⟨h0, h1, h2, h3, h4, h5, h6, h7, h8, h9, h10, h11, h12, h13, h14⟩ := kd_facts k
  generalize kdOf k = d at *
  cases d <;> simp only [reduceCtorEq, decide_true, decide_false] at h1 h2 h3 h4 h5 h6 h7 h8 h9 h10 h11 h12 h13 h14 <;> first
    | exact eq_of_beq h1 | exact eq_of_beq h2 | exact eq_of_beq h3 | exact eq_of_beq h4 | exact eq_of_beq h5 | exact eq_of_beq h6 | exact eq_of_beq h7 | exact eq_of_beq h8 | exact eq_of_beq h9 | exact eq_of_beq h10 | exact eq_of_beq h11 | exact eq_of_beq h12 | exact eq_of_beq h13 | exact eq_of_beq h14 | cases h
theorem kd_tok {k : Str} (h : (kdOf k).known = true) : k.length ≤ 7 ∧ tokOk k = true := by
  have e := kd_str h
  generalize kdOf k = d at *
  subst e
  cases d <;> first | exact ⟨by decide, by decide⟩ | cases h

/-- what can be printed -/
def Cond.pv : Cond → Prop
  | .mk k a b mi ma pat _ kids => (kdOf k).known = true ∧ (0 ≤ a ∧ a ≤ 255) ∧ (0 ≤ b ∧ b ≤ 255) ∧ (0 ≤ mi ∧ mi ≤ 255) ∧ (0 ≤ ma ∧ ma ≤ 255) ∧ pat.length ≤ 40 ∧ ((usesOf (kdOf k)).pat = true → tokOk pat = true) ∧ kids.length ≤ 8 ∧ ∀ x ∈ kids, x.pv

mutual
def prR : Cond → Str
  | .mk k a b mi ma p _ kids => k ++ ((bif (usesOf (kdOf k)).a then 32 :: dg a else []) ++ ((bif (usesOf (kdOf k)).b then 32 :: dg b else []) ++ ((bif (usesOf (kdOf k)).mi then 32 :: dg mi else []) ++ ((bif (usesOf (kdOf k)).ma then 32 :: dg ma else []) ++ ((bif (usesOf (kdOf k)).pat then 32 :: p else []) ++ (prRL true kids ++ (bif (usesOf (kdOf k)).kids then [41] else [])))))))
def prRL : Bool → List Cond → Str
  | _, [] => []
  | f, c :: l => (bif f then [40] else [44, 32]) ++ (prR c ++ prRL false l)
end
theorem bif_len {p : Bool} {l : Str} {n : Nat} (h : l.length ≤ n) : (bif p then l else []).length ≤ n := by
  cases p
  · exact Nat.zero_le _
  · exact h
theorem prR_len : ∀ c : Cond, c.pv → (prR c).length + 2 ≤ 100 * leaves c := by
  intro c
  induction c using Cond.ind with
  | h k a b mi ma pat nl kids ih =>
  intro h
  rw [Cond.pv] at h
  obtain ⟨h1, ⟨_, h2⟩, ⟨_, h3⟩, ⟨_, h4⟩, ⟨_, h5⟩, h6, h7, h8, h9⟩ := h
  have hk := (kd_tok h1).1
  have hl : ∀ l : List Cond, (∀ x ∈ l, x ∈ kids) → ∀ f, (prRL f l).length ≤ 100 * leavesL l := by
    intro l
    induction l with
    | nil => intro _ f; simp [prRL]
    | cons c l ihl =>
      intro hm f
      have a1 := ihl (fun x hx => hm x (List.mem_cons_of_mem _ hx)) false
      have a2 := ih c (hm c (List.mem_cons_self ..)) (h9 c (hm c (List.mem_cons_self ..)))
      rw [prRL, leavesL, List.length_append, List.length_append]
      have : (bif f then ([40] : Str) else [44, 32]).length ≤ 2 := by cases f <;> decide
      omega
  have hkl := hl kids (fun _ h => h) true
  have b1 : (bif (usesOf (kdOf k)).a then 32 :: dg a else []).length ≤ 4 := bif_len (by have := dg_len h2; simp only [List.length_cons]; omega)
  have b2 : (bif (usesOf (kdOf k)).b then 32 :: dg b else []).length ≤ 4 := bif_len (by have := dg_len h3; simp only [List.length_cons]; omega)
  have b3 : (bif (usesOf (kdOf k)).mi then 32 :: dg mi else []).length ≤ 4 := bif_len (by have := dg_len h4; simp only [List.length_cons]; omega)
  have b4 : (bif (usesOf (kdOf k)).ma then 32 :: dg ma else []).length ≤ 4 := bif_len (by have := dg_len h5; simp only [List.length_cons]; omega)
  have b5 : (bif (usesOf (kdOf k)).pat then 32 :: pat else []).length ≤ 41 := bif_len (by simp only [List.length_cons]; omega)
  have b6 : (bif (usesOf (kdOf k)).kids then ([41] : Str) else []).length ≤ 1 := bif_len (by decide)
  rw [prR, leaves]
  simp only [List.length_append]
  omega
theorem leavesL_of_mem {l : List Cond} {c : Cond} (h : c ∈ l) : leaves c ≤ leavesL l := leavesL_mem h
theorem beq_int0 (i : Nat) : ((i : Int) == 0) = Nat.beq i 0 := by
  cases i with
  | zero => rfl
  | succ n => rw [show Nat.beq (n + 1) 0 = false from rfl, beq_eq_false_iff_ne]; omega

theorem l135 {nl : Bool} {kids : List Cond} (hkids : ∀ x ∈ kids, calV U 135 [encC x] = some (.str (prR x))) (hlen : kids.length ≤ 8) (out : Str) (hL : (out ++ prRL true kids).length < 2 ^ 61) {e : Env} {s : St} {ks : List K} {v3 : AV} {k : Str} {a b mi ma : Int} {pat : Str}
    (h1 : Env.get e 1 = .ptr 8 0) (h3 : Env.get e 3 = v3) (h5 : Env.get e 5 = .str out) (h6 : Env.get e 6 = .int .i64 0)
    (hs : s.get 8 = some (.cells [.str k, .int .i64 a, .int .i64 b, .int .i64 mi, .int .i64 ma, .str pat, encS nl (encL kids)] 39 false 0 0)) {r : Option AV}
    (hk : ∀ e', Env.get e' 3 = v3 → Env.get e' 5 = .str (out ++ prRL true kids) → goX U (finP U [.tmp 2]) ks 0 e' s = r) :
    goL U (finP U [.tmp 2]) ks r135_l0 e s = r := by
  refine loop_to (σ := Nat × Str) (fun x => kids.length - x.1) (fun _ => r) (fun x e s' => s' = s ∧ x.1 ≤ kids.length ∧ x.2 ++ prRL (Nat.beq x.1 0) (kids.drop x.1) = out ++ prRL true kids ∧ Env.get e 1 = .ptr 8 0 ∧ Env.get e 3 = v3 ∧ Env.get e 5 = .str x.2 ∧ Env.get e 6 = .int .i64 x.1) (0, out) ?_ rfl ⟨rfl, Nat.zero_le _, rfl, h1, h3, h5, h6⟩
  clear h1 h3 h5 h6 e
  rintro L ⟨i, o⟩ e s' ⟨hss, hi, hT, h1, h3, h5, h6⟩ IH
  subst hss
  simp only at hi hT h1 h3 h5 h6 IH ⊢
  by_cases hd : i < kids.length
  · have hx : (encL kids)[i]? = some (encC kids[i]) := by rw [encL_get, List.getElem?_eq_getElem hd]; rfl
    have hw := wrap_succ hd (by omega)
    have hc := hkids kids[i] (List.getElem_mem hd)
    have hs' := hs
    rw [encS_ne (encL_ne hd)] at hs'
    rw [encC_cells] at hx hc
    simp only [Cond.cells] at hx hc
    rw [List.drop_eq_getElem_cons hd, prRL] at hT
    have hTl := congrArg List.length hT
    simp only [List.length_append] at hTl hL
    simp +contextual only [go_sem, ↓reduceIte, r135_l0, h1, h3, h5, h6, hs', nat_lt_dec, hd, encL_len, hx, hc, hw, beq_int0]
    cases hb : Nat.beq i 0
    all_goals rw [hb] at hT hTl
    all_goals simp only [cond_true, cond_false, List.length_cons, List.length_nil] at hTl hT
    all_goals simp only [br_true, br_false]
    all_goals repeat (refine br_ok (decide_eq_true (by (try simp only [List.length_append, List.length_cons, List.length_nil]); omega)) ?_)
    · refine IH (i + 1, o ++ [44, 32] ++ prR kids[i]) _ _ (by simp only; omega) ⟨rfl, by simp only; omega, ?_, ?_, ?_, ?_, ?_⟩
      · rw [← hT]; simp only [List.append_assoc, List.cons_append, List.nil_append]; rfl
      all_goals simp +contextual only [go_sem, ↓reduceIte, h1, h3, h5, h6, hw]
    · refine IH (i + 1, o ++ [40] ++ prR kids[i]) _ _ (by simp only; omega) ⟨rfl, by simp only; omega, ?_, ?_, ?_, ?_, ?_⟩
      · rw [← hT]; simp only [List.append_assoc, List.cons_append, List.nil_append]; rfl
      all_goals simp +contextual only [go_sem, ↓reduceIte, h1, h3, h5, h6, hw]
  · have : i = kids.length := by omega
    subst this
    rw [List.drop_length, prRL, List.append_nil] at hT
    subst hT
    simp +contextual only [go_sem, ↓reduceIte, r135_l0, h1, h3, h5, h6, hs, lenL_encS, encL_len, nat_lt_dec, Nat.lt_irrefl]
    exact hk _ (by simp +contextual only [go_sem, ↓reduceIte, h3]) (by simp +contextual only [go_sem, ↓reduceIte, h5])
theorem c135 : ∀ c : Cond, c.pv → leaves c < 2 ^ 40 → calV U 135 [encC c] = some (.str (prR c)) := by
  intro c
  induction c using Cond.ind with
  | h k a b mi ma pat nl kids ih =>
  intro h hlv
  have hlen := prR_len _ h
  rw [Cond.pv] at h
  obtain ⟨h1, h2, h3, h4, h5, h6, h7, h8, h9⟩ := h
  have hk7 := (kd_tok h1).1
  have hkl := leavesL_len kids
  rw [leaves] at hlv hlen
  have hkids : ∀ x ∈ kids, calV U 135 [encC x] = some (.str (prR x)) := fun x hx => ih x hx (h9 x hx) (by have := leavesL_mem hx; omega)
  have da := dg_len h2.2
  have db := dg_len h3.2
  have di := dg_len h4.2
  have dm := dg_len h5.2
  have ca := c134' h2.1 h2.2
  have cb := c134' h3.1 h3.2
  have ci := c134' h4.1 h4.2
  have cm := c134' h5.1 h5.2
  refine pure_go k135 (by kernel_rfl) (by simp [stills, still_encC]) ?_
  have h95 := c95 k
  rw [encC]
  rw [prR] at hlen ⊢
  generalize dg a = A at *
  generalize dg b = B at *
  generalize dg mi = I at *
  generalize dg ma = M at *
  rw [encU] at h95
  obtain ⟨O, hO⟩ : ∃ O : Str, O = k ++ ((bif (usesOf (kdOf k)).a then 32 :: A else []) ++ ((bif (usesOf (kdOf k)).b then 32 :: B else []) ++ ((bif (usesOf (kdOf k)).mi then 32 :: I else []) ++ ((bif (usesOf (kdOf k)).ma then 32 :: M else []) ++ (bif (usesOf (kdOf k)).pat then 32 :: pat else []))))) := ⟨_, rfl⟩
  have hOl := congrArg List.length hO
  generalize kdOf k = d at *
  cases d
  all_goals first | cases h1 | skip
  all_goals simp only [usesOf, Kd.known, cond_true, cond_false, List.nil_append, List.append_nil, List.length_append, List.length_cons, List.length_nil] at h95 hlen hO hOl ⊢
  all_goals simp (config := { maxSteps := 2000000 }) +contextual only [go_sem, ↓reduceIte, r135, h95, ca, cb, ci, cm, cells_encS, noAgg_encS]
  all_goals repeat (refine br_ok (decide_eq_true (by (try simp only [List.length_append, List.length_cons, List.length_nil]); omega)) ?_)
  all_goals refine l135 (nl := nl) (kids := kids) hkids h8 O (by simp only [List.length_append]; omega) (k := k) (a := a) (b := b) (mi := mi) (ma := ma) (pat := pat) (v3 := .ptr 9 0) ?_ ?_ ?_ ?_ ?_ ?_
  all_goals first
    | (simp +contextual only [go_sem, ↓reduceIte]; done)
    | (simp +contextual only [go_sem, ↓reduceIte, hO, List.append_assoc, List.cons_append, List.nil_append]; done)
    | skip
  all_goals intro e' g3 g5
  all_goals simp +contextual only [go_sem, ↓reduceIte, g3, g5]
  all_goals repeat (refine br_ok (decide_eq_true (by (try simp only [List.length_append, List.length_cons, List.length_nil]); omega)) ?_)
  all_goals simp only [hO, List.append_assoc, List.cons_append, List.nil_append, List.append_nil]
end Go.Am

set_option linter.all false
namespace Go.Am
open Go
variable [MaxLen]
set_option maxRecDepth 100000
set_option maxHeartbeats 8000000

def prS (s : Step) : Str := 32 :: (prR s.cond ++ ((bif s.times != 1 then [32, 116, 105, 109, 101, 115, 32] ++ dg s.times else []) ++ ((bif s.within != 0 then [32, 119, 105, 116, 104, 105, 110, 32] ++ dg s.within else []) ++ [59])))
def prSL : List Step → Str
  | [] => []
  | s :: l => prS s ++ prSL l
def textR (p : Prog) : Str := [108, 105, 110, 101, 115, 32] ++ (dg p.lines ++ (59 :: prSL p.steps))
def Step.pv (s : Step) : Prop := s.cond.pv ∧ leaves s.cond < 1048576 ∧ (0 ≤ s.times ∧ s.times ≤ 255) ∧ (0 ≤ s.within ∧ s.within ≤ 255)
def Prog.pv (p : Prog) : Prop := (0 ≤ p.lines ∧ p.lines ≤ 255) ∧ p.steps.length ≤ 8 ∧ ∀ s ∈ p.steps, s.pv
theorem prS_len {s : Step} (h : s.pv) : (prS s).length ≤ 2 ^ 27 := by
  obtain ⟨h1, h2, ⟨_, h3⟩, ⟨_, h4⟩⟩ := h
  have a1 := prR_len s.cond h1
  have b1 : (bif s.times != 1 then [32, 116, 105, 109, 101, 115, 32] ++ dg s.times else []).length ≤ 10 := bif_len (by have := dg_len h3; simp only [List.length_append, List.length_cons, List.length_nil]; omega)
  have b2 : (bif s.within != 0 then [32, 119, 105, 116, 104, 105, 110, 32] ++ dg s.within else []).length ≤ 11 := bif_len (by have := dg_len h4; simp only [List.length_append, List.length_cons, List.length_nil]; omega)
  rw [prS]
  simp only [List.length_append, List.length_cons, List.length_nil] at b1 b2 ⊢
  omega
theorem prSL_len : ∀ {l : List Step}, (∀ s ∈ l, s.pv) → (prSL l).length ≤ l.length * 2 ^ 27
  | [], _ => by simp [prSL]
  | s :: l, h => by
    have a1 := prS_len (h s (List.mem_cons_self ..))
    have a2 := prSL_len fun x hx => h x (List.mem_cons_of_mem _ hx)
    rw [prSL, List.length_append, List.length_cons, Nat.add_mul]; omega
theorem textR_len {p : Prog} (h : p.pv) : (textR p).length < 2 ^ 31 := by
  obtain ⟨⟨_, h1⟩, h2, h3⟩ := h
  have a1 := dg_len h1
  have a2 := prSL_len h3
  have a3 : p.steps.length * 2 ^ 27 ≤ 8 * 2 ^ 27 := Nat.mul_le_mul_right _ h2
  rw [textR]
  simp only [List.length_append, List.length_cons, List.length_nil]
  omega
def outR (p : Prog) : AV := br (decide (((textR p).length : Int) > 4096)) (.tup [.str [], .int .i64 26]) (.tup [.str (textR p), .int .i64 0])

theorem c67 (p : Prog) (h : p.pv) : calV U 67 [encP p] = some (outR p) := by
  have hlen := textR_len h
  rw [outR]
  rw [textR] at hlen ⊢
  obtain ⟨lines, nl, steps⟩ := p
  obtain ⟨f1, f2, f3⟩ := h
  simp only at f1 f2 f3 hlen ⊢
  have hdl := c134' f1.1 f1.2
  generalize dg lines = D at *
  refine pure_go k67 (by kernel_rfl) (by simp [stills, still_encP]) ?_
  rw [encP_eq]
  simp only [List.length_append, List.length_cons, List.length_nil] at hlen
  simp (config := { maxSteps := 2000000 }) +contextual only [go_sem, ↓reduceIte, r67, hdl, lenL_encS, encSteps_len, cells_encS, noAgg_encS]
  repeat (refine br_ok (decide_eq_true (by (try simp only [List.length_append, List.length_cons, List.length_nil]); omega)) ?_)
  refine loop_to (σ := Nat × Str) (fun x => steps.length - x.1) (fun x => some (br (decide (((x.2 ++ prSL (steps.drop x.1)).length : Int) > 4096)) (.tup [.str [], .int .i64 26]) (.tup [.str (x.2 ++ prSL (steps.drop x.1)), .int .i64 0]))) (fun x e s => x.1 ≤ steps.length ∧ x.2.length + (prSL (steps.drop x.1)).length < 2 ^ 31 ∧ Env.get e 1 = .ptr 8 0 ∧ Env.get e 4 = .str x.2 ∧ Env.get e 5 = .int .i64 x.1 ∧ 8 < s.next ∧
    s.get 8 = some (.cells [.int .i64 lines, encS nl (encSteps steps)] 31 false 0 0)) (0, 108 :: 105 :: 110 :: 101 :: 115 :: 32 :: (D ++ [59])) ?_ ?_ ?_
  · rintro L ⟨i, o⟩ e s ⟨hi, hT, h1, h4, h5, hn, hs⟩ IH
    simp only at hi hT h1 h4 h5 hn hs IH ⊢
    by_cases hd : i < steps.length
    · have hx : (encSteps steps)[i]? = some (encStep steps[i]) := by rw [encSteps_get, List.getElem?_eq_getElem hd]; rfl
      have hw := wrap_succ hd (by omega)
      obtain ⟨g8, g8'⟩ := get8 hn
      obtain ⟨p1, p2, p3, p4⟩ := f3 steps[i] (List.getElem_mem hd)
      have hc := c135 steps[i].cond p1 (by omega)
      have ht := c134' p3.1 p3.2
      have hwi := c134' p4.1 p4.2
      rw [encS_ne (encSteps_ne hd)] at hs
      rw [encC_cells] at hc
      simp only [Cond.cells, encStep] at hx hc
      obtain ⟨O, hO⟩ : ∃ O : Str, O = o ++ prS steps[i] := ⟨_, rfl⟩
      rw [prS] at hO
      have hOl := congrArg List.length hO
      rw [List.drop_eq_getElem_cons hd, prSL, prS] at hT ⊢
      simp +contextual only [go_sem, ↓reduceIte, r67_l0, h1, h4, h5, hs, nat_lt_dec, hd, encSteps_len, hx, hc, ht, hwi, hw, g8, g8', noAgg_encS]
      cases ht1 : steps[i].times != 1 <;> cases hw1 : steps[i].within != 0
      all_goals rw [ht1, hw1] at hT hO hOl
      all_goals simp only [cond_true, cond_false, List.length_append, List.length_cons, List.length_nil, List.append_assoc, List.cons_append, List.nil_append, List.append_nil] at hT hO hOl
      all_goals simp only [br_true, br_false, cond_true, cond_false]
      all_goals repeat (refine br_ok (decide_eq_true (by (try simp only [List.length_append, List.length_cons, List.length_nil]); omega)) ?_)
      all_goals refine (IH (i + 1, O) _ _ (by simp only; omega) ⟨by simp only; omega, by simp only; omega, ?_, ?_, ?_, ?_, ?_⟩).trans ?_
      all_goals first
        | (simp only [hO, List.append_assoc, List.cons_append, List.nil_append, List.append_nil]; done)
        | (simp +contextual only [go_sem, ↓reduceIte, h1, h4, h5, hs, hw, g8, g8', encS_ne (encSteps_ne hd)]; done)
        | (simp +contextual only [go_sem, ↓reduceIte, hO, List.append_assoc, List.cons_append, List.nil_append, List.append_nil]; done)
        | (simp +contextual only [go_sem, ↓reduceIte]; omega)
        | skip
    · have : i = steps.length := by omega
      subst this
      rw [List.drop_length, prSL, List.append_nil]
      simp +contextual only [go_sem, ↓reduceIte, r67_l0, h1, h4, h5, hs, lenL_encS, encSteps_len, nat_lt_dec, Nat.lt_irrefl]
  · simp only [List.drop_zero, List.append_assoc, List.cons_append, List.nil_append, List.length_cons]
  · refine ⟨Nat.zero_le _, ?_, ?_, ?_, ?_, ?_, ?_⟩
    · simp only [List.drop_zero, List.length_append, List.length_cons, List.length_nil]; omega
    all_goals simp +contextual only [go_sem, ↓reduceIte, List.append_assoc, List.cons_append, List.nil_append]
    all_goals first | rfl | skip
end Go.Am

set_option linter.all false
namespace Go.Am
open Go
variable [MaxLen]
set_option maxRecDepth 100000
set_option maxHeartbeats 8000000

/-! # The program's tokens -/

/-- a row of strings: made by appends from B on, or a literal from A on -/
def TokI (s : St) (A B : Nat) (ts : List Str) (v : AV) : Prop :=
  ts ≠ [] ∧ ∃ b, b < s.next ∧ s.get b = some (.cells (ts.map AV.str) 9 false 0 0) ∧ ((B ≤ b ∧ v = .sl b 0 ts.length none 1) ∨ (A ≤ b ∧ v = .sl b 0 ts.length (some ts.length) 1))
theorem TokI.lenA {s : St} {A B : Nat} {ts : List Str} {v : AV} (h : TokI s A B ts v) : Go.Am.lenA v = ts.length := by
  obtain ⟨_, b, _, _, ⟨_, rfl⟩ | ⟨_, rfl⟩⟩ := h <;> rfl
theorem TokI.lenL {s : St} {A B : Nat} {ts : List Str} {v : AV} (h : TokI s A B ts v) : lenRL v = some (.int .i64 ts.length) := by
  obtain ⟨_, b, _, _, ⟨_, rfl⟩ | ⟨_, rfl⟩⟩ := h <;> rfl
theorem TokI.noAgg {s : St} {A B : Nat} {ts : List Str} {v : AV} (h : TokI s A B ts v) : noAgg v = true := by
  obtain ⟨_, b, _, _, ⟨_, rfl⟩ | ⟨_, rfl⟩⟩ := h <;> rfl
theorem TokI.mono {s s' : St} {A B : Nat} {ts : List Str} {v : AV} (h : TokI s A B ts v) (hAB : A ≤ B) (hn : s.next ≤ s'.next) (hg : ∀ j, A ≤ j → j < s.next → s'.get j = s.get j) : TokI s' A B ts v := by
  obtain ⟨h0, b, h1, h2, h3⟩ := h
  have hb : A ≤ b := by rcases h3 with ⟨h, _⟩ | ⟨h, _⟩ <;> omega
  exact ⟨h0, b, by omega, by rw [hg b hb h1]; exact h2, h3⟩
theorem strs_noAgg (ts : List Str) : (ts.map AV.str).all Go.Am.noAgg = true := by
  induction ts with
  | nil => rfl
  | cons t ts ih => rw [List.map_cons, List.all_cons, ih]; rfl
theorem strs_frz (s : St) (d : Nat) (ts : List Str) : mapO (frz U s (d + 1)) (ts.map AV.str) = some (ts.map AV.str) := mapO_map (f := frz U s (d + 1)) (g := AV.str) (h := AV.str) (fun _ => rfl) ts
theorem appD_slk {t : TypeId} {n m : Nat} {new : List AV} {b len k : Nat} {s : St} {cs : List AV} {lo hi : Nat} (hg : s.get b = some (.cells cs t false lo hi)) (hl : cs.length = len * n) (hk : ¬ len + m ≤ k) :
    appD t n m new (.sl b 0 len (some k) n) s = some (.sl s.next 0 (len + m) none n, s.new (.cells (cs ++ new) t false 0 0)) := by
  simp only [appD, St.cells, hg]
  rw [← hl, grab_all]
  simp only
  rw [if_neg hk]
theorem TokI.app {s : St} {A B : Nat} {ts : List Str} {v : AV} (h : TokI s A B ts v) (hB : B ≤ s.next) (new : List Str) (hm : new ≠ []) {m : Nat} (hl : new.length = m) :
    ∃ s1 v1, appD 9 1 m (new.map AV.str) v s = some (v1, s1) ∧ s1.next = s.next + 1 ∧ TokI s1 A B (ts ++ new) v1 ∧ (∀ j, j < B → s1.get j = s.get j) ∧ (Fr s → Fr s1) ∧ (∀ j c t lo hi, j < s.next → t ≠ 9 → s.get j = some (.cells c t false lo hi) → s1.get j = some (.cells c t false lo hi)) := by
  subst hl
  have hm0 : 0 < new.length := List.length_pos_iff.2 hm
  obtain ⟨h0, b, h1, h2, ⟨h3, rfl⟩ | ⟨h3, rfl⟩⟩ := h
  · refine ⟨(s.put b .gone).new (.cells (ts.map AV.str ++ new.map AV.str) 9 false 0 0), .sl s.next 0 (ts.length + new.length) none 1, by rw [appD_sl, h2, appS_cells (by simp) (by omega) (strs_noAgg _)], rfl, ⟨by simp [h0], s.next, by rw [next_new, next_put]; omega, ?_, .inl ⟨hB, by rw [List.length_append]⟩⟩, fun j hj => ?_, fun hf => (hf.put h1 _).new _, fun j c t lo hi hj ht hg => ?_⟩
    · rw [get_new, next_put, if_pos rfl, List.map_append]
    · rw [get_new, next_put, if_neg (by omega), get_put, if_neg (by omega)]
    · have : b ≠ j := by rintro rfl; rw [h2] at hg; cases hg; exact ht rfl
      rw [get_new, next_put, if_neg (by omega), get_put, if_neg this]; exact hg
  · refine ⟨s.new (.cells (ts.map AV.str ++ new.map AV.str) 9 false 0 0), .sl s.next 0 (ts.length + new.length) none 1, by rw [appD_slk h2 (by simp) (by omega)], rfl, ⟨by simp [h0], s.next, by rw [next_new]; omega, ?_, .inl ⟨hB, by rw [List.length_append]⟩⟩, fun j hj => ?_, fun hf => hf.new _, fun j c t lo hi hj ht hg => ?_⟩
    · rw [get_new, if_pos rfl, List.map_append]
    · rw [get_new, if_neg (by omega)]
    · rw [get_new, if_neg (by omega)]; exact hg
theorem TokI.frz {s : St} {A B : Nat} {ts : List Str} {v : AV} (h : TokI s A B ts v) (d : Nat) : frz U s (d + 2) v = some (.fz (ts.map AV.str)) := by
  have key : ∀ b c, s.get b = some (.cells (ts.map AV.str) 9 false 0 0) → Go.Am.frz U s (d + 2) (.sl b 0 ts.length c 1) = some (.fz (ts.map AV.str)) := fun b c hg => by
    have hl : ts.length = (ts.map AV.str).length := by simp
    rw [frz_sl, hg, frzS_cells, Nat.mul_one, hl, grab_all, ag_9, sz_9, frzT_one, if_pos (strs_noAgg ts), chunks_all, strs_frz, fzK_some]
  obtain ⟨_, b, _, h2, ⟨_, rfl⟩ | ⟨_, rfl⟩⟩ := h
  · exact key b _ h2
  · exact key b _ h2
theorem source_fz (ts : List Str) (s : St) : sourceA 1 (.fz (ts.map AV.str)) s = some (ts.length, ts.map AV.str) := by
  have h1 : (ts.map AV.str).all (fun x => x.cells.length == 1) = true := by
    induction ts with
    | nil => rfl
    | cons t ts ih => rw [List.map_cons, List.all_cons, ih]; rfl
  have h2 : (ts.map AV.str).flatMap AV.cells = ts.map AV.str := by
    clear h1
    induction ts with
    | nil => rfl
    | cons t ts ih => rw [List.map_cons, List.flatMap_cons, ih]; rfl
  simp only [sourceA, h1, h2, List.length_map]
  rfl
attribute [go_sem] source_fz

def numsT : List (Bool × Int) → List Str
  | [] => []
  | f :: l => (bif f.1 then [dg f.2] else []) ++ numsT l
def flatF (fs : List (Bool × Int)) : List AV := fs.flatMap fun f => [.bool f.1, .int .i64 f.2]
theorem grab_flat : ∀ (i : Nat) (fs : List (Bool × Int)) (f : Bool × Int), fs[i]? = some f → grab 2 (i * 2) (flatF fs) = some [.bool f.1, .int .i64 f.2]
  | 0, g :: l, f, h => by
    cases h
    show grab 2 0 (.bool g.1 :: .int .i64 g.2 :: flatF l) = _
    simp [grab]
  | i + 1, g :: l, f, h => by
    have := grab_flat i l f (by simpa using h)
    rw [Nat.succ_mul]
    exact this
  | 0, [], f, h => by cases h
  | i + 1, [], f, h => by cases h

def T128 (cs kc : List AV) (ts : List Str) (e : Env) (s : St) : Prop :=
  Env.get e 1 = .ptr 8 0 ∧ Env.get e 4 = .ptr 14 0 ∧ 16 < s.next ∧ Fr s ∧ s.get 8 = some (.cells cs 48 false 0 0) ∧ s.get 14 = some (.cells kc 236 false 0 0) ∧ ∃ v, Env.get e 3 = v ∧ TokI s 9 17 ts v
theorem numsT_len : ∀ fs, (numsT fs).length ≤ fs.length
  | [] => Nat.le_refl _
  | f :: l => by
    have := numsT_len l
    rw [numsT, List.length_append, List.length_cons]
    have : (bif f.1 then [dg f.2] else []).length ≤ 1 := by cases f.1 <;> simp
    omega

theorem l128a (c127 : ∀ n : Int, 0 ≤ n → n ≤ 255 → calV U 127 [.int .i64 n] = some (.str (dg n))) {cs kc : List AV} {fs : List (Bool × Int)} (hfs : fs.length = 4) (hr : ∀ f ∈ fs, 0 ≤ f.2 ∧ f.2 ≤ 255) (ts0 : List Str) (N : Nat) (hN : N ≤ 2000000000) (hb : ts0.length ≤ N) {e : Env} {s : St} {ks : List K} {r : Option AV}
    (hT : T128 cs kc ts0 e s) (h36 : Env.get e 36 = .sl 16 0 4 (some 4) 2) (h37 : Env.get e 37 = .int .i64 4) (h38 : Env.get e 38 = .int .i64 0) (hs16 : s.get 16 = some (.cells (flatF fs) 266 false 0 0))
    (hk : ∀ e' s', T128 cs kc (ts0 ++ numsT fs) e' s' → goX U (finP U [.tmp 2]) ks 0 e' s' = r) : goL U (finP U [.tmp 2]) ks r128_l0 e s = r := by
  refine loop_to (σ := Nat × List Str) (fun x => 4 - x.1) (fun _ => r) (fun x e s => x.1 ≤ 4 ∧ x.2.length ≤ N + x.1 ∧ x.2 ++ numsT (fs.drop x.1) = ts0 ++ numsT fs ∧ T128 cs kc x.2 e s ∧ Env.get e 36 = .sl 16 0 4 (some 4) 2 ∧ Env.get e 37 = .int .i64 4 ∧ Env.get e 38 = .int .i64 x.1 ∧ s.get 16 = some (.cells (flatF fs) 266 false 0 0)) (0, ts0) ?_ rfl ⟨Nat.zero_le _, hb, by simp, hT, h36, h37, h38, hs16⟩
  clear hT h36 h37 h38 hs16 e s
  rintro L ⟨i, ts⟩ e s ⟨hi, hl, hE, ⟨h1, h4, hn, hfr, hs8, hs14, v, h3, hv⟩, h36, h37, h38, hs16⟩ IH
  simp only at hi hl hE h1 h4 hn hfr hs8 hs14 h3 hv h36 h37 h38 hs16 IH ⊢
  have h37' : Env.get e 37 = .int .i64 ((4 : Nat) : Int) := h37
  have ne : ∀ a k, a ≤ 16 → (s.next + k = a) = False := fun a k ha => by simp; omega
  have ne' : ∀ a, a ≤ 16 → (s.next = a) = False := fun a ha => by simp; omega
  by_cases hd : i < 4
  · have hdf : i < fs.length := by omega
    have hx : fs[i]? = some fs[i] := List.getElem?_eq_getElem hdf
    have hgr := grab_flat i fs _ hx
    have hw := wrap_succ hd (by omega)
    have hri := hr fs[i] (List.getElem_mem hdf)
    have h127 := c127 fs[i].2 hri.1 hri.2
    have hla := hv.lenA
    have hna := hv.noAgg
    have hb1 : (ts.length + 1) * 16 ≤ 1099511627776 := by omega
    have hb2 : ts.length + 1 ≤ 1099511627776 := by omega
    rw [List.drop_eq_getElem_cons hdf, numsT] at hE
    cases hu : fs[i].1
    · rw [hu] at hE hgr
      simp +contextual only [go_sem, ↓reduceIte, r128_l0, h1, h3, h4, h36, h37', h38, hs16, nat_lt_dec, hd, hgr, ne, ne', hw]
      refine IH (i + 1, ts) _ _ (by simp only; omega) ⟨by simp only; omega, by simp only; omega, ?_, ⟨?_, ?_, ?_, ?_, ?_, ?_, v, ?_, ?_⟩, ?_, ?_, ?_, ?_⟩
      case refine_9 => exact hv.mono (by omega) (by rw [next_put, next_new]; omega) fun j _ hj => by rw [get_put, get_new, if_neg (by omega), if_neg (by omega)]
      case refine_5 => exact (hfr.new _).put (by rw [next_new]; omega) _
      case refine_1 => simpa using hE
      all_goals simp +contextual only [go_sem, ↓reduceIte, h1, h3, h4, h36, h37, h38, hs8, hs14, hs16, ne, ne', hw]
      all_goals omega
    · rw [hu] at hE hgr
      simp +contextual only [go_sem, ↓reduceIte, r128_l0, h1, h3, h4, h36, h37', h38, hs16, nat_lt_dec, hd, hgr, ne, ne', hw, h127, appK_some, Nat.reducePow, Nat.one_mul, hla, hna, hb1, hb2]
      have hv0 : ∀ x y, TokI (((s.new x).put s.next y).new (.cells [.str (dg fs[i].2)] 9 false 0 0)) 9 17 ts v := fun x y => hv.mono (by omega) (by rw [next_new, next_put, next_new]; omega) fun j _ hj => by rw [get_new, next_put, next_new, if_neg (by omega), get_put, get_new, if_neg (by omega), if_neg (by omega)]
      obtain ⟨s1, v1, e1, e2, e3, e4, e5, e6⟩ := (hv0 (.cells [.bool false, .int .i64 0] 266 false 0 0) (.cells [.bool true, .int .i64 fs[i].2] 266 false 0 0)).app (by rw [next_new, next_put, next_new]; omega) [dg fs[i].2] (by simp) (m := 1) rfl
      simp only [List.map_cons, List.map_nil] at e1
      rw [e1]
      have k8 := e4 8 (by omega)
      have k14 := e4 14 (by omega)
      have k16 := e4 16 (by omega)
      simp only [get_put, get_new, next_put, next_new, Nat.add_assoc, ne, ne', ↓reduceIte, hs8, hs14, hs16, Nat.reduceLeDiff] at k8 k14 k16 e2
      simp +contextual only [go_sem, ↓reduceIte, h38, hw]
      refine IH (i + 1, ts ++ [dg fs[i].2]) _ _ (by simp only; omega) ⟨by simp only; omega, by simp only [List.length_append, List.length_singleton]; omega, ?_, ⟨?_, ?_, ?_, ?_, ?_, ?_, v1, ?_, e3⟩, ?_, ?_, ?_, ?_⟩
      case refine_5 => exact e5 (((hfr.new _).put (by rw [next_new]; omega) _).new _)
      case refine_1 => simpa using hE
      all_goals simp +contextual only [go_sem, ↓reduceIte, h1, h3, h4, h36, h37, h38, k8, k14, k16, hw, e2]
      all_goals first | omega | skip
  · have : i = 4 := by omega
    subst this
    rw [List.drop_eq_nil_of_le (by omega), numsT, List.append_nil] at hE
    subst hE
    simp +contextual only [go_sem, ↓reduceIte, r128_l0, h37', h38, nat_lt_dec, Nat.lt_irrefl]
    refine hk _ _ ⟨?_, ?_, hn, hfr, hs8, hs14, v, ?_, hv⟩
    all_goals simp +contextual only [go_sem, ↓reduceIte, h1, h3, h4]
end Go.Am

set_option linter.all false
namespace Go.Am
open Go
variable [MaxLen]
set_option maxRecDepth 100000
set_option maxHeartbeats 8000000

mutual
def tkP : Cond → List Str
  | .mk k a b mi ma p _ kids => k :: (numsT [((usesOf (kdOf k)).a, a), ((usesOf (kdOf k)).b, b), ((usesOf (kdOf k)).mi, mi), ((usesOf (kdOf k)).ma, ma)] ++ ((bif (usesOf (kdOf k)).pat then [p] else []) ++ (tkPL true kids ++ (bif (usesOf (kdOf k)).kids then [[41]] else []))))
def tkPL : Bool → List Cond → List Str
  | _, [] => []
  | f, c :: l => (bif f then [40] else [44]) :: (tkP c ++ tkPL false l)
end
theorem tkP_len : ∀ c : Cond, (tkP c).length + 1 ≤ 20 * leaves c := by
  intro c
  induction c using Cond.ind with
  | h k a b mi ma pat nl kids ih =>
  have hl : ∀ l : List Cond, (∀ x ∈ l, x ∈ kids) → ∀ f, (tkPL f l).length ≤ 20 * leavesL l := by
    intro l
    induction l with
    | nil => intro _ f; simp [tkPL]
    | cons c l ihl =>
      intro hm f
      have a1 := ihl (fun x hx => hm x (List.mem_cons_of_mem _ hx)) false
      have a2 := ih c (hm c (List.mem_cons_self ..))
      rw [tkPL, leavesL, List.length_cons, List.length_append]
      omega
  have hkl := hl kids (fun _ h => h) true
  have b1 := numsT_len [((usesOf (kdOf k)).a, a), ((usesOf (kdOf k)).b, b), ((usesOf (kdOf k)).mi, mi), ((usesOf (kdOf k)).ma, ma)]
  have b5 : (bif (usesOf (kdOf k)).pat then [pat] else []).length ≤ 1 := by cases (usesOf (kdOf k)).pat <;> simp
  have b6 : (bif (usesOf (kdOf k)).kids then ([[41]] : List Str) else []).length ≤ 1 := by cases (usesOf (kdOf k)).kids <;> simp
  rw [tkP, leaves]
  simp only [List.length_append, List.length_cons, List.length_nil] at b1 ⊢
  omega
theorem tkP_ne (c : Cond) : tkP c ≠ [] := by cases c; rw [tkP]; simp

theorem l128b {nl : Bool} {kids : List Cond} (hkids : ∀ x ∈ kids, calV U 128 [encC x] = some (.fz ((tkP x).map AV.str))) {cs kc : List AV} (h8 : kids.length ≤ 8) (ts0 : List Str) (hb : (ts0 ++ tkPL true kids).length ≤ 1100000000) {e : Env} {s : St} {ks : List K} {r : Option AV}
    (hT : T128 cs kc ts0 e s) (h59 : Env.get e 59 = encS nl (encL kids)) (h60 : Env.get e 60 = .int .i64 kids.length) (h61 : Env.get e 61 = .int .i64 0)
    (hk : ∀ e' s', T128 cs kc (ts0 ++ tkPL true kids) e' s' → goX U (finP U [.tmp 2]) ks 2 e' s' = r) : goL U (finP U [.tmp 2]) ks r128_l1 e s = r := by
  refine loop_to (σ := Nat × List Str) (fun x => kids.length - x.1) (fun _ => r) (fun x e s => x.1 ≤ kids.length ∧ x.2 ++ tkPL (Nat.beq x.1 0) (kids.drop x.1) = ts0 ++ tkPL true kids ∧ T128 cs kc x.2 e s ∧ Env.get e 59 = encS nl (encL kids) ∧ Env.get e 60 = .int .i64 kids.length ∧ Env.get e 61 = .int .i64 x.1) (0, ts0) ?_ rfl ⟨Nat.zero_le _, rfl, hT, h59, h60, h61⟩
  clear hT h59 h60 h61 e s
  rintro L ⟨i, ts⟩ e s ⟨hi, hE, ⟨h1, h4, hn, hfr, hs8, hs14, v, h3, hv⟩, h59, h60, h61⟩ IH
  simp only at hi hE h1 h4 hn hfr hs8 hs14 h3 hv h59 h60 h61 IH ⊢
  have ne : ∀ a k, a ≤ 16 → (s.next + k = a) = False := fun a k ha => by simp; omega
  have ne' : ∀ a, a ≤ 16 → (s.next = a) = False := fun a ha => by simp; omega
  by_cases hd : i < kids.length
  · have hx : (encL kids)[i]? = some (encC kids[i]) := by rw [encL_get, List.getElem?_eq_getElem hd]; rfl
    have hc := hkids kids[i] (List.getElem_mem hd)
    have htn := tkP_ne kids[i]
    have hm0 : ((tkP kids[i]).length = 0) = False := by simp [htn]
    rw [encC_cells] at hx hc
    simp only [Cond.cells] at hx hc
    rw [List.drop_eq_getElem_cons hd, tkPL] at hE
    have hl := congrArg List.length hE
    simp only [List.length_append, List.length_cons] at hl hb
    have hw := wrap_succ hd (by omega)
    rw [encS_ne (encL_ne hd)] at h59
    generalize tkP kids[i] = tk at *
    have hla := hv.lenA
    have hna := hv.noAgg
    have hb1 : (ts.length + 1) * 16 ≤ 1099511627776 := by omega
    have hb2 : ts.length + 1 ≤ 1099511627776 := by omega
    have hb3 : ∀ x : Str, ((ts ++ [x]).length + tk.length) * 16 ≤ 1099511627776 := fun x => by rw [List.length_append, List.length_singleton]; omega
    have hb4 : ∀ x : Str, (ts ++ [x]).length + tk.length ≤ 1099511627776 := fun x => by rw [List.length_append, List.length_singleton]; omega
    have hmin : min (i : Int) 1 = bif Nat.beq i 0 then 0 else 1 := by
      cases i with
      | zero => rfl
      | succ n =>
        show min ((n + 1 : Nat) : Int) 1 = 1
        omega
    generalize hbb : Nat.beq i 0 = bb at *
    have hv0 : ∀ x y z w, TokI ((((s.new x).put s.next y).new z).new w) 9 17 ts v := fun x y z w => hv.mono (by omega) (by rw [next_new, next_new, next_put, next_new]; omega) fun j _ hj => by rw [get_new, next_new, next_put, next_new, if_neg (by omega), get_new, next_put, next_new, if_neg (by omega), get_put, get_new, if_neg (by omega), if_neg (by omega)]
    cases bb
    all_goals simp only [cond_true, cond_false] at hmin hE
    all_goals simp +contextual only [go_sem, ↓reduceIte, r128_l1, h1, h3, h4, h59, h60, h61, nat_lt_dec, hd, hx, hmin, ne, ne', hw, appK_some, Nat.reducePow, Nat.one_mul, hla, hna, hb1, hb2, noAgg_encS]
    · obtain ⟨s1, v1, e1, e2, e3, e4, e5, e6⟩ := (hv0 (.cells [.str [], .int .i64 0, .int .i64 0, .int .i64 0, .int .i64 0, .str [], .nils] 48 false 0 0) (.cells kids[i].cells 48 false 0 0) (.cells [.str [40], .str [44]] 9 false 0 0) (.cells [.str [44]] 9 false 0 0)).app (by simp only [next_new, next_put]; omega) [[44]] (by simp) (m := 1) rfl
      simp only [List.map_cons, List.map_nil, Cond.cells] at e1
      rw [e1]
      have k8 := e4 8 (by omega)
      have k14 := e4 14 (by omega)
      have kn := e6 s.next _ 48 0 0 (by simp only [next_new, next_put]; omega) (by decide) (by rw [get_new, if_neg (by simp only [next_new, next_put]; omega), get_new, if_neg (by simp only [next_new, next_put]; omega), get_put, if_pos rfl])
      simp only [next_new, next_put] at e2
      simp only [get_put, get_new, next_put, next_new, Nat.add_assoc, ne, ne', ↓reduceIte, hs8, hs14, Nat.reduceLeDiff, Nat.reduceAdd, Cond.cells] at k8 k14 e2 kn
      have hl1 := e3.lenA
      have hn1 := e3.noAgg
      have hfr1 := e5 ((((hfr.new _).put (by rw [next_new]; omega) _).new _).new _)
      simp +contextual only [go_sem, ↓reduceIte, h61, hw, kn, hc, hl1, hn1, appK_some, hm0, Nat.reducePow, Nat.one_mul, hb3, hb4, List.length_map, Nat.mul_one, not_false_eq_true]
      obtain ⟨s2, v2, f1, f2, f3, f4, f5, f6⟩ := e3.app (by rw [e2]; omega) tk htn (m := tk.length) rfl
      rw [f1]
      have m8 := f4 8 (by omega)
      have m14 := f4 14 (by omega)
      rw [k8] at m8
      rw [k14] at m14
      simp +contextual only [go_sem, ↓reduceIte, h61, hw]
      refine IH (i + 1, _) _ _ (by simp only; omega) ⟨by simp only; omega, ?_, ⟨?_, ?_, ?_, f5 hfr1, m8, m14, v2, ?_, f3⟩, ?_, ?_, ?_⟩
      case refine_1 => simp only [Nat.beq, List.append_assoc, List.cons_append, List.nil_append]; rw [← hE]
      all_goals simp +contextual only [go_sem, ↓reduceIte, h1, h4, h59, h60, h61, hw, f2, e2, encS_ne (encL_ne hd)]
      all_goals first | omega | skip
    · obtain ⟨s1, v1, e1, e2, e3, e4, e5, e6⟩ := (hv0 (.cells [.str [], .int .i64 0, .int .i64 0, .int .i64 0, .int .i64 0, .str [], .nils] 48 false 0 0) (.cells kids[i].cells 48 false 0 0) (.cells [.str [40], .str [44]] 9 false 0 0) (.cells [.str [40]] 9 false 0 0)).app (by simp only [next_new, next_put]; omega) [[40]] (by simp) (m := 1) rfl
      simp only [List.map_cons, List.map_nil, Cond.cells] at e1
      rw [e1]
      have k8 := e4 8 (by omega)
      have k14 := e4 14 (by omega)
      have kn := e6 s.next _ 48 0 0 (by simp only [next_new, next_put]; omega) (by decide) (by rw [get_new, if_neg (by simp only [next_new, next_put]; omega), get_new, if_neg (by simp only [next_new, next_put]; omega), get_put, if_pos rfl])
      simp only [next_new, next_put] at e2
      simp only [get_put, get_new, next_put, next_new, Nat.add_assoc, ne, ne', ↓reduceIte, hs8, hs14, Nat.reduceLeDiff, Nat.reduceAdd, Cond.cells] at k8 k14 e2 kn
      have hl1 := e3.lenA
      have hn1 := e3.noAgg
      have hfr1 := e5 ((((hfr.new _).put (by rw [next_new]; omega) _).new _).new _)
      simp +contextual only [go_sem, ↓reduceIte, h61, hw, kn, hc, hl1, hn1, appK_some, hm0, Nat.reducePow, Nat.one_mul, hb3, hb4, List.length_map, Nat.mul_one, not_false_eq_true]
      obtain ⟨s2, v2, f1, f2, f3, f4, f5, f6⟩ := e3.app (by rw [e2]; omega) tk htn (m := tk.length) rfl
      rw [f1]
      have m8 := f4 8 (by omega)
      have m14 := f4 14 (by omega)
      rw [k8] at m8
      rw [k14] at m14
      simp +contextual only [go_sem, ↓reduceIte, h61, hw]
      refine IH (i + 1, _) _ _ (by simp only; omega) ⟨by simp only; omega, ?_, ⟨?_, ?_, ?_, f5 hfr1, m8, m14, v2, ?_, f3⟩, ?_, ?_, ?_⟩
      case refine_1 => simp only [Nat.beq, List.append_assoc, List.cons_append, List.nil_append]; rw [← hE]
      all_goals simp +contextual only [go_sem, ↓reduceIte, h1, h4, h59, h60, h61, hw, f2, e2, encS_ne (encL_ne hd)]
      all_goals first | omega | skip
  · have : i = kids.length := by omega
    subst this
    rw [List.drop_length, tkPL, List.append_nil] at hE
    subst hE
    simp +contextual only [go_sem, ↓reduceIte, r128_l1, h60, h61, nat_lt_dec, Nat.lt_irrefl]
    refine hk _ _ ⟨?_, ?_, hn, hfr, hs8, hs14, v, ?_, hv⟩
    all_goals simp +contextual only [go_sem, ↓reduceIte, h1, h3, h4]

theorem c128 (c127 : ∀ n : Int, 0 ≤ n → n ≤ 255 → calV U 127 [.int .i64 n] = some (.str (dg n))) : ∀ c : Cond, c.pv → leaves c < 1048576 → calV U 128 [encC c] = some (.fz ((tkP c).map AV.str)) := by
  intro c
  induction c using Cond.ind with
  | h k a b mi ma pat nl kids ih =>
  intro h hlv
  have hlen := tkP_len (.mk k a b mi ma pat nl kids)
  rw [Cond.pv] at h
  obtain ⟨h1, h2, h3, h4, h5, h6, h7, h8, h9⟩ := h
  rw [leaves] at hlv hlen
  have hkids : ∀ x ∈ kids, calV U 128 [encC x] = some (.fz ((tkP x).map AV.str)) := fun x hx => ih x hx (h9 x hx) (by have := leavesL_mem hx; omega)
  refine pure_go k128 (by kernel_rfl) (by simp [stills, still_encC]) ?_
  have hlk := lookup_kinds0 k
  rw [encC]
  rw [tkP] at hlen ⊢
  have hs : stills [kSize (kdOf k), kStart (kdOf k), kStep (kdOf k)] = true := by cases kdOf k <;> rfl
  have hn : noAgg (kSize (kdOf k)) = true ∧ noAgg (kStart (kdOf k)) = true ∧ noAgg (kStep (kdOf k)) = true := by cases kdOf k <;> exact ⟨rfl, rfl, rfl⟩
  have hcl : (kSize (kdOf k)).cells = [kSize (kdOf k)] ∧ (kStart (kdOf k)).cells = [kStart (kdOf k)] ∧ (kStep (kdOf k)).cells = [kStep (kdOf k)] := by cases kdOf k <;> exact ⟨rfl, rfl, rfl⟩
  rw [kindV] at hlk
  obtain ⟨n1, n2, n3⟩ := hn
  generalize kSize (kdOf k) = A1 at *
  generalize kStart (kdOf k) = A2 at *
  generalize kStep (kdOf k) = A3 at *
  generalize hu : usesOf (kdOf k) = u at *
  obtain ⟨ua, ub, um, ux, up, uk⟩ := u
  simp only at hlk hlen h7 ⊢
  simp (config := { maxSteps := 2000000 }) +contextual only [go_sem, ↓reduceIte, r128, c156, hlk, cells_encS, noAgg_encS, n1, n2, n3]
  refine l128a c127 (fs := [(ua, a), (ub, b), (um, mi), (ux, ma)]) (cs := [.str k, .int .i64 a, .int .i64 b, .int .i64 mi, .int .i64 ma, .str pat, encS nl (encL kids)]) (kc := [.bool ua, .bool ub, .bool um, .bool ux, .bool up, .bool uk, A1, A2, A3]) rfl ?_ [k] 1 (by omega) (Nat.le_refl _) ⟨?_, ?_, ?_, ?_, ?_, ?_, .sl 9 0 1 (some 1) 1, ?_, by simp, 9, ?_, ?_, .inr ⟨Nat.le_refl _, rfl⟩⟩ ?_ ?_ ?_ ?_ ?_
  case refine_1 =>
    intro f hf
    simp only [List.mem_cons, List.not_mem_nil, or_false] at hf
    rcases hf with rfl | rfl | rfl | rfl
    · exact h2
    · exact h3
    · exact h4
    · exact h5
  case refine_5 =>
    repeat first | exact Fr.own | apply Fr.new | apply Fr.put | apply Fr.upto
    all_goals simp +contextual only [go_sem, ↓reduceIte]
  case refine_15 =>
    rintro e s ⟨q1, q4, qn, qfr, q8, q14, v, q3, qv⟩
    have ne : ∀ a k, a ≤ 16 → (s.next + k = a) = False := fun a k ha => by simp; omega
    have ne' : ∀ a, a ≤ 16 → (s.next = a) = False := fun a ha => by simp; omega
    have hla := qv.lenA
    have hna := qv.noAgg
    obtain ⟨ts, hts⟩ : ∃ ts : List Str, ts = [k] ++ numsT [(ua, a), (ub, b), (um, mi), (ux, ma)] := ⟨_, rfl⟩
    have hwhole : ∀ R : List Str, k :: (numsT [(ua, a), (ub, b), (um, mi), (ux, ma)] ++ R) = ts ++ R := fun R => by rw [hts]; rfl
    rw [hwhole] at hlen ⊢
    rw [← hts] at qv hla
    clear hts hwhole
    simp only [List.length_append] at hlen
    have hb1 : (ts.length + 1) * 16 ≤ 1099511627776 := by omega
    have hb2 : ts.length + 1 ≤ 1099511627776 := by omega
    cases up
    · simp only [cond_false, List.nil_append, List.length_nil] at hlen ⊢
      simp +contextual only [go_sem, ↓reduceIte, q1, q3, q4, q8, q14, lenL_encS, encL_len]
      refine l128b (nl := nl) hkids h8 ts (by rw [List.length_append]; omega) ⟨?_, ?_, qn, qfr, q8, q14, v, ?_, qv⟩ ?_ ?_ ?_ ?_
      case refine_7 =>
        rintro e2 s2 ⟨w1, w4, wn, wfr, w8, w14, v2, w3, wv⟩
        have ne2 : ∀ a k, a ≤ 16 → (s2.next + k = a) = False := fun a k ha => by simp; omega
        have ne2' : ∀ a, a ≤ 16 → (s2.next = a) = False := fun a ha => by simp; omega
        have hla2 := wv.lenA
        have hna2 := wv.noAgg
        have hfz := wv.frz 38
        cases uk
        · simp +contextual only [go_sem, ↓reduceIte, w1, w3, w4, w8, w14, hfz]
          try simp
        · have hb3 : ((ts ++ tkPL true kids).length + 1) * 16 ≤ 1099511627776 := by simp only [List.length_append, List.length_singleton]; omega
          have hb4 : (ts ++ tkPL true kids).length + 1 ≤ 1099511627776 := by simp only [List.length_append, List.length_singleton]; omega
          simp +contextual only [go_sem, ↓reduceIte, w1, w3, w4, w8, w14, ne2, ne2', appK_some, Nat.reducePow, Nat.one_mul, hla2, hna2, hb3, hb4]
          obtain ⟨s3, v3, f1, f2, f3, f4, f5, f6⟩ := (wv.mono (s' := s2.new (.cells [.str [41]] 9 false 0 0)) (by omega) (by rw [next_new]; omega) fun j _ hj => by rw [get_new, if_neg (by omega)]).app (by rw [next_new]; omega) [[41]] (by simp) (m := 1) rfl
          simp only [List.map_cons, List.map_nil] at f1
          rw [f1]
          have hfz3 := f3.frz 38
          simp +contextual only [go_sem, ↓reduceIte, hfz3]
          try simp
      all_goals simp +contextual only [go_sem, ↓reduceIte, q1, q3, q4]
      all_goals rfl
    · simp only [cond_true, List.length_cons, List.length_nil] at hlen ⊢
      simp +contextual only [go_sem, ↓reduceIte, q1, q3, q4, q8, q14, lenL_encS, encL_len, ne, ne', appK_some, Nat.reducePow, Nat.one_mul, hla, hna, hb1, hb2]
      obtain ⟨s1, v1, e1, e2, e3, e4, e5, e6⟩ := (qv.mono (s' := s.new (.cells [.str pat] 9 false 0 0)) (by omega) (by rw [next_new]; omega) fun j _ hj => by rw [get_new, if_neg (by omega)]).app (by rw [next_new]; omega) [pat] (by simp) (m := 1) rfl
      simp only [List.map_cons, List.map_nil] at e1
      rw [e1]
      have k8 := e4 8 (by omega)
      have k14 := e4 14 (by omega)
      rw [get_new, if_neg (by omega), q8] at k8
      rw [get_new, if_neg (by omega), q14] at k14
      rw [next_new] at e2
      have hl1 := e3.lenA
      have hn1 := e3.noAgg
      simp +contextual only [go_sem, ↓reduceIte, q1, q4, k8, k14, lenL_encS, encL_len]
      refine l128b (nl := nl) hkids h8 (ts ++ [pat]) (by rw [List.length_append, List.length_append, List.length_singleton]; omega) ⟨?_, ?_, by omega, e5 (qfr.new _), k8, k14, v1, ?_, e3⟩ ?_ ?_ ?_ ?_
      case refine_7 =>
        rintro e2 s2 ⟨w1, w4, wn, wfr, w8, w14, v2, w3, wv⟩
        have ne2 : ∀ a k, a ≤ 16 → (s2.next + k = a) = False := fun a k ha => by simp; omega
        have ne2' : ∀ a, a ≤ 16 → (s2.next = a) = False := fun a ha => by simp; omega
        have hla2 := wv.lenA
        have hna2 := wv.noAgg
        have hfz := wv.frz 38
        cases uk
        · simp +contextual only [go_sem, ↓reduceIte, w1, w3, w4, w8, w14, hfz]
          try simp
        · have hb3 : ((ts ++ [pat] ++ tkPL true kids).length + 1) * 16 ≤ 1099511627776 := by simp only [List.length_append, List.length_singleton]; omega
          have hb4 : (ts ++ [pat] ++ tkPL true kids).length + 1 ≤ 1099511627776 := by simp only [List.length_append, List.length_singleton]; omega
          simp +contextual only [go_sem, ↓reduceIte, w1, w3, w4, w8, w14, ne2, ne2', appK_some, Nat.reducePow, Nat.one_mul, hla2, hna2, hb3, hb4]
          obtain ⟨s3, v3, f1, f2, f3, f4, f5, f6⟩ := (wv.mono (s' := s2.new (.cells [.str [41]] 9 false 0 0)) (by omega) (by rw [next_new]; omega) fun j _ hj => by rw [get_new, if_neg (by omega)]).app (by rw [next_new]; omega) [[41]] (by simp) (m := 1) rfl
          simp only [List.map_cons, List.map_nil] at f1
          rw [f1]
          have hfz3 := f3.frz 38
          simp +contextual only [go_sem, ↓reduceIte, hfz3]
          try simp
      all_goals simp +contextual only [go_sem, ↓reduceIte, q1, q4]
      all_goals rfl
  all_goals simp +contextual only [go_sem, ↓reduceIte]
  all_goals rfl
end Go.Am

set_option linter.all false
namespace Go.Am
open Go
variable [MaxLen]
set_option maxRecDepth 100000
set_option maxHeartbeats 4000000

/-! # The tokens, joined, are the reference's text -/

def cont (t : Str) : Bool := t == [41] || (t == [44] || (t == [59] || t == [40]))
def jn : Bool → List Str → Str
  | _, [] => []
  | b, t :: l => (bif b || cont t then t else 32 :: t) ++ jn (t == [40]) l
theorem tokOk_cont {t : Str} (h : tokOk t = true) : cont t = false ∧ (t == [40]) = false := by
  cases t with
  | nil => cases h
  | cons c l =>
    simp only [tokOk, Bool.not_eq_true', Bool.or_eq_false_iff, beq_eq_false_iff_ne] at h
    obtain ⟨⟨⟨h1, h2⟩, h3⟩, h4⟩ := h
    have e : ∀ d : UInt8, c ≠ d → (c :: l == [d]) = false := fun d hd => by
      rw [beq_eq_false_iff_ne]; intro hh; exact hd (List.cons.inj hh).1
    refine ⟨?_, e 40 h1⟩
    rw [cont, e 41 h2, e 44 h3, e 59 h4, e 40 h1]; rfl
theorem jn_tok {t : Str} (h : tokOk t = true) (b : Bool) (l : List Str) : jn b (t :: l) = (bif b then t else 32 :: t) ++ jn false l := by
  obtain ⟨h1, h2⟩ := tokOk_cont h
  rw [jn, h1, h2, Bool.or_false]
theorem digs_tok (n : Nat) : tokOk (digs n) = true := by
  induction n using Nat.strongRecOn with
  | ind n ih =>
  by_cases h : n < 10
  · rw [digs_small h]
    have : ∀ k : Fin 10, tokOk [UInt8.ofNat (48 + k.val)] = true := by decide
    exact this ⟨n, h⟩
  · rw [digs_big h]
    have := ih (n / 10) (by omega)
    cases hd : digs (n / 10) with
    | nil => rw [hd] at this; cases this
    | cons c l => rw [hd] at this; exact this
theorem dg_tok (n : Int) : tokOk (dg n) = true := digs_tok _
def numsR : List (Bool × Int) → Str
  | [] => []
  | f :: l => (bif f.1 then 32 :: dg f.2 else []) ++ numsR l
theorem jn_nums : ∀ (fs : List (Bool × Int)) (l : List Str), jn false (numsT fs ++ l) = numsR fs ++ jn false l
  | [], l => rfl
  | f :: fs, l => by
    rw [numsT, numsR, List.append_assoc, List.append_assoc]
    cases f.1
    · exact jn_nums fs l
    · show jn false (dg f.2 :: (numsT fs ++ l)) = _
      rw [jn_tok (dg_tok _), jn_nums fs l]; rfl
theorem jn_close (l : List Str) : jn false ([41] :: l) = 41 :: jn false l := rfl
theorem jn_semi (l : List Str) : jn false ([59] :: l) = 59 :: jn false l := rfl
theorem jn_open (l : List Str) : jn false ([40] :: l) = 40 :: jn true l := rfl
theorem jn_comma (l : List Str) : jn false ([44] :: l) = 44 :: jn false l := rfl
theorem jn_cond : ∀ c : Cond, c.pv → ∀ (b : Bool) (l : List Str), jn b (tkP c ++ l) = (bif b then [] else [32]) ++ (prR c ++ jn false l) := by
  intro c
  induction c using Cond.ind with
  | h k a b mi ma pat nl kids ih =>
  intro h b0 l
  rw [Cond.pv] at h
  obtain ⟨h1, _, _, _, _, _, h7, _, h9⟩ := h
  have hk : ∀ ks : List Cond, (∀ x ∈ ks, x ∈ kids) → ∀ (f : Bool) (l : List Str), jn false (tkPL f ks ++ l) = prRL f ks ++ jn false l := by
    intro ks
    induction ks with
    | nil => intro _ f l; rfl
    | cons c ks ihk =>
      intro hm f l
      have hc := ih c (hm c (List.mem_cons_self ..)) (h9 c (hm c (List.mem_cons_self ..)))
      have hr := ihk fun x hx => hm x (List.mem_cons_of_mem _ hx)
      rw [tkPL, prRL]
      cases f
      · show jn false ([44] :: (tkP c ++ tkPL false ks ++ l)) = _
        rw [jn_comma, List.append_assoc, hc, hr]
        simp [List.append_assoc]
      · show jn false ([40] :: (tkP c ++ tkPL false ks ++ l)) = _
        rw [jn_open, List.append_assoc, hc, hr]
        simp [List.append_assoc]
  rw [tkP, prR, List.cons_append, jn_tok (kd_tok h1).2]
  simp only [List.append_assoc]
  rw [jn_nums]
  have hp : ∀ l : List Str, jn false ((bif (usesOf (kdOf k)).pat then [pat] else []) ++ l) = (bif (usesOf (kdOf k)).pat then 32 :: pat else []) ++ jn false l := fun l => by
    cases hu : (usesOf (kdOf k)).pat
    · rfl
    · show jn false (pat :: l) = _
      rw [jn_tok (h7 hu)]; rfl
  have hcl : ∀ l : List Str, jn false ((bif (usesOf (kdOf k)).kids then [[41]] else []) ++ l) = (bif (usesOf (kdOf k)).kids then [41] else []) ++ jn false l := fun l => by
    cases (usesOf (kdOf k)).kids
    · rfl
    · exact jn_close l
  rw [hp, hk kids (fun _ h => h), hcl]
  cases b0 <;> simp [numsR, List.append_assoc]
def tkS (s : Step) : List Str := tkP s.cond ++ ((bif s.times != 1 then [[116, 105, 109, 101, 115], dg s.times] else []) ++ ((bif s.within != 0 then [[119, 105, 116, 104, 105, 110], dg s.within] else []) ++ [[59]]))
def tkSL : List Step → List Str
  | [] => []
  | s :: l => tkS s ++ tkSL l
def toksP (p : Prog) : List Str := [108, 105, 110, 101, 115] :: dg p.lines :: [59] :: tkSL p.steps
theorem jn_steps : ∀ l : List Step, (∀ s ∈ l, s.pv) → jn false (tkSL l) = prSL l
  | [], _ => rfl
  | s :: l, h => by
    have hc := jn_cond s.cond (h s (List.mem_cons_self ..)).1
    have hr := jn_steps l fun x hx => h x (List.mem_cons_of_mem _ hx)
    rw [tkSL, prSL, tkS, prS, List.append_assoc, hc]
    cases s.times != 1 <;> cases s.within != 0 <;> simp only [cond_true, cond_false, List.append_assoc, List.cons_append, List.nil_append, List.append_nil]
    · rw [jn_semi, hr]
    · rw [jn_tok (by rfl), jn_tok (dg_tok _), jn_semi, hr]; simp [List.append_assoc]
    · rw [jn_tok (by rfl), jn_tok (dg_tok _), jn_semi, hr]; simp [List.append_assoc]
    · rw [jn_tok (by rfl), jn_tok (dg_tok _), jn_tok (by rfl), jn_tok (dg_tok _), jn_semi, hr]; simp [List.append_assoc]
theorem jn_prog {p : Prog} (h : p.pv) : jn true (toksP p) = textR p := by
  rw [toksP, textR, jn_tok (by rfl), jn_tok (dg_tok _), jn_semi, jn_steps _ h.2.2]; simp [List.append_assoc]
end Go.Am

set_option linter.all false
namespace Go.Am
open Go
variable [MaxLen]
set_option maxRecDepth 100000
set_option maxHeartbeats 8000000

/-! # strings.Builder -/

def bytesA (bs : Str) : List AV := bs.map fun c => .int .u8 c.toNat
theorem bytesA_len (bs : Str) : (bytesA bs).length = bs.length := by simp [bytesA]
theorem bytesA_noAgg (bs : Str) : (bytesA bs).all noAgg = true := by
  induction bs with
  | nil => rfl
  | cons c l ih => rw [bytesA, List.map_cons, List.all_cons]; exact ih
theorem bytesA_load (bs : Str) : loadBytesA (bytesA bs) = some bs := by
  induction bs with
  | nil => rfl
  | cons c l ih =>
    show loadBytesA (.int .u8 c.toNat :: bytesA l) = _
    simp only [loadBytesA, ih, Int.toNat_natCast, UInt8.ofNat_toNat]
/-- a builder at block b, that holds bs -/
def BldI (s : St) (b : Nat) (bs : Str) : Prop := ∃ p v, s.get b = some (.cells [p, v] 207 false 0 0) ∧ (p = .nilp ∨ p = .ptr b 0) ∧ b < s.next ∧ RowI s (b + 1) 5 1 bs.length (bytesA bs) v
theorem k182 (args : List AV) (s : St) : callK U (calV U 182 args) 182 args s = cal U 182 args s := (callK_eq U 182 args s).symm
theorem k130' (args : List AV) (s : St) : callK U (calV U 130 args) 130 args s = cal U 130 args s := (callK_eq U 130 args s).symm
theorem k131' (args : List AV) (s : St) : callK U (calV U 131 args) 131 args s = cal U 131 args s := (callK_eq U 131 args s).symm
theorem k132' (args : List AV) (s : St) : callK U (calV U 132 args) 132 args s = cal U 132 args s := (callK_eq U 132 args s).symm
theorem k133' (args : List AV) (s : St) : callK U (calV U 133 args) 133 args s = cal U 133 args s := (callK_eq U 133 args s).symm
theorem cal_182 (args : List AV) (s : St) : cal U 182 args s = extCopy args s := by
  unfold cal callF
  rw [U_ext]
  rfl
theorem c182 {s : St} {b : Nat} {p v : AV} (hg : s.get b = some (.cells [p, v] 207 false 0 0)) (hp : p = .nilp ∨ p = .ptr b 0) (hb : b < s.next) :
    ∃ s0, cal U 182 [.ptr b 0] s = some (.tup [], s0) ∧ s0.next = s.next ∧ s0.get b = some (.cells [.ptr b 0, v] 207 false 0 0) ∧ (∀ j, j ≠ b → s0.get j = s.get j) ∧ (Fr s → Fr s0) := by
  rw [cal_182]
  rcases hp with rfl | rfl
  · refine ⟨s.put b (.cells [.ptr b 0, v] 207 false 0 0), by simp only [extCopy, hg, if_true], rfl, by rw [get_put, if_pos rfl], fun j hj => by rw [get_put, if_neg (by omega)], fun h => h.put hb _⟩
  · exact ⟨s, by simp only [extCopy, hg, if_true], rfl, hg, fun _ _ => rfl, fun h => h⟩
theorem source_bytes (t : Str) (s : St) : sourceA 1 (.str t) s = some (t.length, bytesA t) := rfl

theorem bld_add {s : St} {b : Nat} {bs : Str} (h : BldI s b bs) (hf : Fr s) (t : Str) (ht : t ≠ []) (hlen : bs.length + t.length ≤ 2 ^ 39) :
    ∃ p v, s.get b = some (.cells [p, v] 207 false 0 0) ∧ (p = .nilp ∨ p = .ptr b 0) ∧ b < s.next := by
  obtain ⟨p, v, h1, h2, h3, _⟩ := h
  exact ⟨p, v, h1, h2, h3⟩
theorem c130 {s : St} {b : Nat} {bs : Str} (h : BldI s b bs) (hf : Fr s) (c : UInt8) (hlen : bs.length + 1 ≤ 2 ^ 39) :
    ∃ s', cal U 130 [.ptr b 0, .int .u8 c.toNat] s = some (.nili, s') ∧ BldI s' b (bs ++ [c]) ∧ Fr s' ∧ s.next ≤ s'.next ∧ ∀ j, j < b → s'.get j = s.get j := by
  obtain ⟨p, v, hg, hp, hb, hv⟩ := h
  obtain ⟨s0, g1, g2, g3, g4, g5⟩ := c182 hg hp hb
  have hla := hv.lenA
  have hb1 : (bs.length + 1) * 1 ≤ 1099511627776 := by omega
  have hb2 : bs.length + 1 ≤ 1099511627776 := by omega
  have hv1 : RowI (s0.new (.cells [.int .u8 c.toNat] 5 false 0 0)) (b + 1) 5 1 bs.length (bytesA bs) v := hv.mono (by rw [next_new]; omega) fun j hj hj' => by rw [get_new, if_neg (by omega), g4 j (by omega)]
  obtain ⟨s1, e1, e2, e3, e4, e5⟩ := hv1.app (by rw [next_new]; omega) (m := 1) (new := [.int .u8 c.toNat]) (by omega) rfl rfl
  have kb := e4 b (by omega)
  rw [get_new, if_neg (by omega), g3] at kb
  rw [next_new, g2] at e1 e2 e3
  refine ⟨s1.put b (.cells [.ptr b 0, .sl (s.next + 1) 0 (bs.length + 1) none 1] 207 false 0 0), ?_, ⟨.ptr b 0, .sl (s.next + 1) 0 (bs.length + 1) none 1, by rw [get_put, if_pos rfl], .inr rfl, by rw [next_put]; omega, ?_⟩, (e5 ((g5 hf).new _)).put (by omega) _, by rw [next_put]; omega, fun j hj => ?_⟩
  · refine kept_go k130 (by kernel_rfl) ?_
    simp +contextual only [go_sem, ↓reduceIte, r130, k182, g1, g2, g3, Nat.add_eq_left, appK_some, hla, hb1, hb2, Nat.reducePow]
    rw [e1]
    simp +contextual only [go_sem, ↓reduceIte, kb]
  · have hl : (bs ++ [c]).length = bs.length + 1 := by simp
    rw [hl]
    have hbb : bytesA (bs ++ [c]) = bytesA bs ++ [.int .u8 c.toNat] := by simp [bytesA]
    rw [hbb]
    exact e3.mono (by rw [next_put]; omega) fun j hj _ => by rw [get_put, if_neg (by omega)]
  · rw [get_put, if_neg (by omega), e4 j (by omega), get_new, if_neg (by omega), g4 j (by omega)]
theorem c131 {s : St} {b : Nat} {bs : Str} (h : BldI s b bs) (hf : Fr s) (t : Str) (ht : t ≠ []) (hlen : bs.length + t.length ≤ 2 ^ 39) :
    ∃ s' r, cal U 131 [.ptr b 0, .str t] s = some (r, s') ∧ BldI s' b (bs ++ t) ∧ Fr s' ∧ s.next ≤ s'.next ∧ ∀ j, j < b → s'.get j = s.get j := by
  obtain ⟨p, v, hg, hp, hb, hv⟩ := h
  obtain ⟨s0, g1, g2, g3, g4, g5⟩ := c182 hg hp hb
  have hla := hv.lenA
  have hb1 : (bs.length + t.length) * 1 ≤ 1099511627776 := by omega
  have hb2 : bs.length + t.length ≤ 1099511627776 := by omega
  have ht0 : (t.length = 0) = False := by simp [ht]
  have hv1 : RowI s0 (b + 1) 5 1 bs.length (bytesA bs) v := hv.mono (by omega) fun j hj hj' => g4 j (by omega)
  obtain ⟨s1, e1, e2, e3, e4, e5⟩ := hv1.app (by omega) (m := t.length) (new := bytesA t) (by intro h0; simp [ht] at h0) (by rw [bytesA_len]; omega) (bytesA_noAgg t)
  have kb := e4 b (by omega)
  rw [g3] at kb
  rw [g2] at e1 e2 e3
  refine ⟨s1.put b (.cells [.ptr b 0, .sl s.next 0 (bs.length + t.length) none 1] 207 false 0 0), .tup [.int .i64 t.length, .nili], ?_, ⟨.ptr b 0, .sl s.next 0 (bs.length + t.length) none 1, by rw [get_put, if_pos rfl], .inr rfl, by rw [next_put]; omega, ?_⟩, (e5 (g5 hf)).put (by omega) _, by rw [next_put]; omega, fun j hj => ?_⟩
  · refine kept_go k131 (by kernel_rfl) ?_
    simp +contextual only [go_sem, ↓reduceIte, r131, k182, g1, g2, g3, source_bytes, Nat.add_eq_left, appK_some, hla, hb1, hb2, Nat.reducePow, bytesA_len, ht0, Nat.mul_one, not_false_eq_true]
    rw [e1]
    simp +contextual only [go_sem, ↓reduceIte, kb]
  · have hl : (bs ++ t).length = bs.length + t.length := by simp
    rw [hl]
    have hbb : bytesA (bs ++ t) = bytesA bs ++ bytesA t := by simp [bytesA]
    rw [hbb]
    exact e3.mono (by rw [next_put]; omega) fun j hj _ => by rw [get_put, if_neg (by omega)]
  · rw [get_put, if_neg (by omega), e4 j (by omega), g4 j (by omega)]
theorem c132 {s : St} {b : Nat} {bs : Str} (h : BldI s b bs) : cal U 132 [.ptr b 0] s = some (.int .i64 bs.length, s) := by
  obtain ⟨p, v, hg, hp, hb, hv⟩ := h
  have hll := hv.len
  refine kept_go k132 (by kernel_rfl) ?_
  simp +contextual only [go_sem, ↓reduceIte, r132, hg, hll]
end Go.Am

set_option linter.all false
namespace Go.Am
open Go
variable [MaxLen]
set_option maxRecDepth 100000
set_option maxHeartbeats 8000000

/-! # The program's printer -/

theorem l66a (c127 : ∀ n : Int, 0 ≤ n → n ≤ 255 → calV U 127 [.int .i64 n] = some (.str (dg n))) {nl : Bool} {steps : List Step} (hst : ∀ s ∈ steps, s.pv) (ts0 : List Str) (hb : (ts0 ++ tkSL steps).length ≤ 1100000000) (hb0 : steps.length ≤ 8) {v0 : AV} {e : Env} {s : St} {ks : List K} {r : Option AV}
    (h5 : Env.get e 5 = v0) (hv : TokI s 9 10 ts0 v0) (hn : 9 < s.next) (hfr : Fr s) (h21 : Env.get e 21 = encS nl (encSteps steps)) (h22 : Env.get e 22 = .int .i64 steps.length) (h23 : Env.get e 23 = .int .i64 0)
    (hk : ∀ e' s' v', Env.get e' 5 = v' → TokI s' 9 10 (ts0 ++ tkSL steps) v' → 9 < s'.next → Fr s' → goX U (finP U [.tmp 2, .tmp 3]) ks 0 e' s' = r) : goL U (finP U [.tmp 2, .tmp 3]) ks r66_l0 e s = r := by
  refine loop_to (σ := Nat × List Str) (fun x => steps.length - x.1) (fun _ => r) (fun x e s => x.1 ≤ steps.length ∧ x.2 ++ tkSL (steps.drop x.1) = ts0 ++ tkSL steps ∧ 9 < s.next ∧ Fr s ∧ Env.get e 21 = encS nl (encSteps steps) ∧ Env.get e 22 = .int .i64 steps.length ∧ Env.get e 23 = .int .i64 x.1 ∧ ∃ v, Env.get e 5 = v ∧ TokI s 9 10 x.2 v) (0, ts0) ?_ rfl ⟨Nat.zero_le _, rfl, hn, hfr, h21, h22, h23, v0, h5, hv⟩
  clear h5 hv hn hfr h21 h22 h23 e s
  rintro L ⟨i, ts⟩ e s ⟨hi, hE, hn, hfr, h21, h22, h23, v, h5, hv⟩ IH
  simp only at hi hE hn hfr h21 h22 h23 h5 hv IH ⊢
  by_cases hd : i < steps.length
  · have hx : (encSteps steps)[i]? = some (encStep steps[i]) := by rw [encSteps_get, List.getElem?_eq_getElem hd]; rfl
    have hw := wrap_succ hd (by omega)
    obtain ⟨p1, p2, p3, p4⟩ := hst steps[i] (List.getElem_mem hd)
    have hc := c128 c127 steps[i].cond p1 p2
    have ht := c127 _ p3.1 p3.2
    have hwi := c127 _ p4.1 p4.2
    have htn := tkP_ne steps[i].cond
    have hm0 : ((tkP steps[i].cond).length = 0) = False := by simp [htn]
    rw [List.drop_eq_getElem_cons hd, tkSL, tkS] at hE
    have hl := congrArg List.length hE
    simp only [List.length_append, List.length_cons, List.length_nil] at hl hb
    rw [encC_cells] at hc
    simp only [Cond.cells, encStep] at hx hc
    rw [encS_ne (encSteps_ne hd)] at h21
    generalize tkP steps[i].cond = tk at *
    have hla := hv.lenA
    have hna := hv.noAgg
    have hB : ∀ n, n ≤ 5 → (ts.length + (tk.length + n)) * 16 ≤ 1099511627776 ∧ ts.length + (tk.length + n) ≤ 1099511627776 := fun n hn => by omega
    obtain ⟨lb0, ld0⟩ := hB 0 (by omega)
    obtain ⟨lb1, ld1⟩ := hB 1 (by omega)
    obtain ⟨lb2, ld2⟩ := hB 2 (by omega)
    obtain ⟨lb3, ld3⟩ := hB 3 (by omega)
    obtain ⟨lb4, ld4⟩ := hB 4 (by omega)
    obtain ⟨lb5, ld5⟩ := hB 5 (by omega)
    rw [Nat.add_zero] at lb0 ld0
    have ne : ∀ a k, a ≤ 9 → (s.next + k = a) = False := fun a k ha => by simp; omega
    have ne' : ∀ a, a ≤ 9 → (s.next = a) = False := fun a ha => by simp; omega
    simp +contextual only [go_sem, ↓reduceIte, r66_l0, h5, h21, h22, h23, nat_lt_dec, hd, hx, hc, hw, appK_some, hm0, Nat.reducePow, Nat.one_mul, Nat.mul_one, hla, hna, lb0, ld0, noAgg_encS, List.length_map, not_false_eq_true]
    have hv0 : ∀ x y, TokI ((s.new x).put s.next y) 9 10 ts v := fun x y => hv.mono (by omega) (by rw [next_put, next_new]; omega) fun j _ hj => by rw [get_put, get_new, if_neg (by omega), if_neg (by omega)]
    obtain ⟨s1, v1, e1, e2, e3, e4, e5, e6⟩ := (hv0 (.cells [.str [], .int .i64 0, .int .i64 0, .int .i64 0, .int .i64 0, .str [], .nils, .int .i64 0, .int .i64 0] 144 false 0 0) (.cells steps[i].cells9 144 false 0 0)).app (by simp only [next_new, next_put]; omega) tk htn (m := tk.length) rfl
    simp only [Step.cells9] at e1
    rw [e1]
    have kn := e6 s.next _ 144 0 0 (by simp only [next_new, next_put]; omega) (by decide) (by rw [get_put, if_pos rfl])
    simp only [next_put, next_new] at e2
    simp only [Step.cells9] at kn
    have hl1 := e3.lenA
    rw [List.length_append] at hl1
    have hn1 := e3.noAgg
    have hfr1 := e5 ((hfr.new _).put (by rw [next_new]; omega) _)
    simp +contextual only [go_sem, ↓reduceIte, kn, ht, hwi, hl1, hn1, appK_some, Nat.reducePow, Nat.one_mul, Nat.mul_one, Nat.add_assoc, Nat.reduceAdd, lb1, ld1, lb2, ld2, lb3, ld3, lb4, ld4, lb5, ld5, not_false_eq_true, Nat.add_eq_left]
    cases ht1 : steps[i].times != 1 <;> cases hw1 : steps[i].within != 0
    all_goals rw [ht1, hw1] at hE
    all_goals simp only [cond_true, cond_false, List.nil_append, List.append_assoc] at hE
    all_goals simp only [br_true, br_false]
    · obtain ⟨ta, va, a1, a2, a3, a4, a5, a6⟩ := (e3.mono (s' := s1.new (.cells (([[59]] : List Str).map AV.str) 9 false 0 0)) (by omega) (by rw [next_new]; omega) fun j _ hj => by rw [get_new, if_neg (by omega)]).app (by rw [next_new]; omega) [[59]] (by simp) (m := 1) rfl
      simp only [List.map_cons, List.map_nil, List.length_append, Nat.add_assoc, Nat.reduceAdd, List.length_cons, List.length_nil] at a1
      rw [a1]
      have hla : lenA va = ts.length + (tk.length + 1) := by rw [a3.lenA]; simp only [List.length_append, List.length_cons, List.length_nil]; omega
      have hna := a3.noAgg
      have hfa := a5 (hfr1.new _)
      rw [next_new] at a2
      have ka := a6 s.next _ 144 0 0 (by rw [next_new]; omega) (by decide) (by rw [get_new, if_neg (by omega)]; exact kn)
      simp +contextual only [go_sem, ↓reduceIte, ka, hla, hna, ht, hwi, h23, hw, appK_some, Nat.reducePow, Nat.one_mul, Nat.mul_one, Nat.add_assoc, Nat.reduceAdd, lb1, ld1, lb2, ld2, lb3, ld3, lb4, ld4, lb5, ld5, not_false_eq_true, Nat.add_eq_left, ht1, hw1]
      refine IH (i + 1, _) _ _ (by simp only; omega) ⟨by simp only; omega, ?_, ?_, hfa, ?_, ?_, ?_, va, ?_, a3⟩
      case refine_1 => simp only [List.append_assoc, List.cons_append, List.nil_append]; rw [← hE]; simp only [List.append_assoc, List.cons_append, List.nil_append]
      all_goals simp +contextual only [go_sem, ↓reduceIte, h21, h22, h23, hw, encS_ne (encSteps_ne hd), a2, e2]
      all_goals first | omega | skip
    · obtain ⟨ta, va, a1, a2, a3, a4, a5, a6⟩ := (e3.mono (s' := s1.new (.cells (([[119, 105, 116, 104, 105, 110], dg steps[i].within] : List Str).map AV.str) 9 false 0 0)) (by omega) (by rw [next_new]; omega) fun j _ hj => by rw [get_new, if_neg (by omega)]).app (by rw [next_new]; omega) [[119, 105, 116, 104, 105, 110], dg steps[i].within] (by simp) (m := 2) rfl
      simp only [List.map_cons, List.map_nil, List.length_append, Nat.add_assoc, Nat.reduceAdd, List.length_cons, List.length_nil] at a1
      rw [a1]
      have hla : lenA va = ts.length + (tk.length + 2) := by rw [a3.lenA]; simp only [List.length_append, List.length_cons, List.length_nil]; omega
      have hna := a3.noAgg
      have hfa := a5 (hfr1.new _)
      rw [next_new] at a2
      have ka := a6 s.next _ 144 0 0 (by rw [next_new]; omega) (by decide) (by rw [get_new, if_neg (by omega)]; exact kn)
      simp +contextual only [go_sem, ↓reduceIte, ka, hla, hna, ht, hwi, h23, hw, appK_some, Nat.reducePow, Nat.one_mul, Nat.mul_one, Nat.add_assoc, Nat.reduceAdd, lb1, ld1, lb2, ld2, lb3, ld3, lb4, ld4, lb5, ld5, not_false_eq_true, Nat.add_eq_left, ht1, hw1]
      obtain ⟨tb, vb, b1, b2, b3, b4, b5, b6⟩ := (a3.mono (s' := ta.new (.cells (([[59]] : List Str).map AV.str) 9 false 0 0)) (by omega) (by rw [next_new]; omega) fun j _ hj => by rw [get_new, if_neg (by omega)]).app (by rw [next_new]; omega) [[59]] (by simp) (m := 1) rfl
      simp only [List.map_cons, List.map_nil, List.length_append, Nat.add_assoc, Nat.reduceAdd, List.length_cons, List.length_nil] at b1
      rw [b1]
      have hlb : lenA vb = ts.length + (tk.length + 3) := by rw [b3.lenA]; simp only [List.length_append, List.length_cons, List.length_nil]; omega
      have hnb := b3.noAgg
      have hfb := b5 (hfa.new _)
      rw [next_new] at b2
      have kb := b6 s.next _ 144 0 0 (by rw [next_new]; omega) (by decide) (by rw [get_new, if_neg (by omega)]; exact ka)
      simp +contextual only [go_sem, ↓reduceIte, kb, hlb, hnb, ht, hwi, h23, hw, appK_some, Nat.reducePow, Nat.one_mul, Nat.mul_one, Nat.add_assoc, Nat.reduceAdd, lb1, ld1, lb2, ld2, lb3, ld3, lb4, ld4, lb5, ld5, not_false_eq_true, Nat.add_eq_left, ht1, hw1]
      refine IH (i + 1, _) _ _ (by simp only; omega) ⟨by simp only; omega, ?_, ?_, hfb, ?_, ?_, ?_, vb, ?_, b3⟩
      case refine_1 => simp only [List.append_assoc, List.cons_append, List.nil_append]; rw [← hE]; simp only [List.append_assoc, List.cons_append, List.nil_append]
      all_goals simp +contextual only [go_sem, ↓reduceIte, h21, h22, h23, hw, encS_ne (encSteps_ne hd), a2, b2, e2]
      all_goals first | omega | skip
    · obtain ⟨ta, va, a1, a2, a3, a4, a5, a6⟩ := (e3.mono (s' := s1.new (.cells (([[116, 105, 109, 101, 115], dg steps[i].times] : List Str).map AV.str) 9 false 0 0)) (by omega) (by rw [next_new]; omega) fun j _ hj => by rw [get_new, if_neg (by omega)]).app (by rw [next_new]; omega) [[116, 105, 109, 101, 115], dg steps[i].times] (by simp) (m := 2) rfl
      simp only [List.map_cons, List.map_nil, List.length_append, Nat.add_assoc, Nat.reduceAdd, List.length_cons, List.length_nil] at a1
      rw [a1]
      have hla : lenA va = ts.length + (tk.length + 2) := by rw [a3.lenA]; simp only [List.length_append, List.length_cons, List.length_nil]; omega
      have hna := a3.noAgg
      have hfa := a5 (hfr1.new _)
      rw [next_new] at a2
      have ka := a6 s.next _ 144 0 0 (by rw [next_new]; omega) (by decide) (by rw [get_new, if_neg (by omega)]; exact kn)
      simp +contextual only [go_sem, ↓reduceIte, ka, hla, hna, ht, hwi, h23, hw, appK_some, Nat.reducePow, Nat.one_mul, Nat.mul_one, Nat.add_assoc, Nat.reduceAdd, lb1, ld1, lb2, ld2, lb3, ld3, lb4, ld4, lb5, ld5, not_false_eq_true, Nat.add_eq_left, ht1, hw1]
      obtain ⟨tb, vb, b1, b2, b3, b4, b5, b6⟩ := (a3.mono (s' := ta.new (.cells (([[59]] : List Str).map AV.str) 9 false 0 0)) (by omega) (by rw [next_new]; omega) fun j _ hj => by rw [get_new, if_neg (by omega)]).app (by rw [next_new]; omega) [[59]] (by simp) (m := 1) rfl
      simp only [List.map_cons, List.map_nil, List.length_append, Nat.add_assoc, Nat.reduceAdd, List.length_cons, List.length_nil] at b1
      rw [b1]
      have hlb : lenA vb = ts.length + (tk.length + 3) := by rw [b3.lenA]; simp only [List.length_append, List.length_cons, List.length_nil]; omega
      have hnb := b3.noAgg
      have hfb := b5 (hfa.new _)
      rw [next_new] at b2
      have kb := b6 s.next _ 144 0 0 (by rw [next_new]; omega) (by decide) (by rw [get_new, if_neg (by omega)]; exact ka)
      simp +contextual only [go_sem, ↓reduceIte, kb, hlb, hnb, ht, hwi, h23, hw, appK_some, Nat.reducePow, Nat.one_mul, Nat.mul_one, Nat.add_assoc, Nat.reduceAdd, lb1, ld1, lb2, ld2, lb3, ld3, lb4, ld4, lb5, ld5, not_false_eq_true, Nat.add_eq_left, ht1, hw1]
      refine IH (i + 1, _) _ _ (by simp only; omega) ⟨by simp only; omega, ?_, ?_, hfb, ?_, ?_, ?_, vb, ?_, b3⟩
      case refine_1 => simp only [List.append_assoc, List.cons_append, List.nil_append]; rw [← hE]; simp only [List.append_assoc, List.cons_append, List.nil_append]
      all_goals simp +contextual only [go_sem, ↓reduceIte, h21, h22, h23, hw, encS_ne (encSteps_ne hd), a2, b2, e2]
      all_goals first | omega | skip
    · obtain ⟨ta, va, a1, a2, a3, a4, a5, a6⟩ := (e3.mono (s' := s1.new (.cells (([[116, 105, 109, 101, 115], dg steps[i].times] : List Str).map AV.str) 9 false 0 0)) (by omega) (by rw [next_new]; omega) fun j _ hj => by rw [get_new, if_neg (by omega)]).app (by rw [next_new]; omega) [[116, 105, 109, 101, 115], dg steps[i].times] (by simp) (m := 2) rfl
      simp only [List.map_cons, List.map_nil, List.length_append, Nat.add_assoc, Nat.reduceAdd, List.length_cons, List.length_nil] at a1
      rw [a1]
      have hla : lenA va = ts.length + (tk.length + 2) := by rw [a3.lenA]; simp only [List.length_append, List.length_cons, List.length_nil]; omega
      have hna := a3.noAgg
      have hfa := a5 (hfr1.new _)
      rw [next_new] at a2
      have ka := a6 s.next _ 144 0 0 (by rw [next_new]; omega) (by decide) (by rw [get_new, if_neg (by omega)]; exact kn)
      simp +contextual only [go_sem, ↓reduceIte, ka, hla, hna, ht, hwi, h23, hw, appK_some, Nat.reducePow, Nat.one_mul, Nat.mul_one, Nat.add_assoc, Nat.reduceAdd, lb1, ld1, lb2, ld2, lb3, ld3, lb4, ld4, lb5, ld5, not_false_eq_true, Nat.add_eq_left, ht1, hw1]
      obtain ⟨tb, vb, b1, b2, b3, b4, b5, b6⟩ := (a3.mono (s' := ta.new (.cells (([[119, 105, 116, 104, 105, 110], dg steps[i].within] : List Str).map AV.str) 9 false 0 0)) (by omega) (by rw [next_new]; omega) fun j _ hj => by rw [get_new, if_neg (by omega)]).app (by rw [next_new]; omega) [[119, 105, 116, 104, 105, 110], dg steps[i].within] (by simp) (m := 2) rfl
      simp only [List.map_cons, List.map_nil, List.length_append, Nat.add_assoc, Nat.reduceAdd, List.length_cons, List.length_nil] at b1
      rw [b1]
      have hlb : lenA vb = ts.length + (tk.length + 4) := by rw [b3.lenA]; simp only [List.length_append, List.length_cons, List.length_nil]; omega
      have hnb := b3.noAgg
      have hfb := b5 (hfa.new _)
      rw [next_new] at b2
      have kb := b6 s.next _ 144 0 0 (by rw [next_new]; omega) (by decide) (by rw [get_new, if_neg (by omega)]; exact ka)
      simp +contextual only [go_sem, ↓reduceIte, kb, hlb, hnb, ht, hwi, h23, hw, appK_some, Nat.reducePow, Nat.one_mul, Nat.mul_one, Nat.add_assoc, Nat.reduceAdd, lb1, ld1, lb2, ld2, lb3, ld3, lb4, ld4, lb5, ld5, not_false_eq_true, Nat.add_eq_left, ht1, hw1]
      obtain ⟨tc, vc, c1, c2, c3, c4, c5, c6⟩ := (b3.mono (s' := tb.new (.cells (([[59]] : List Str).map AV.str) 9 false 0 0)) (by omega) (by rw [next_new]; omega) fun j _ hj => by rw [get_new, if_neg (by omega)]).app (by rw [next_new]; omega) [[59]] (by simp) (m := 1) rfl
      simp only [List.map_cons, List.map_nil, List.length_append, Nat.add_assoc, Nat.reduceAdd, List.length_cons, List.length_nil] at c1
      rw [c1]
      have hlc : lenA vc = ts.length + (tk.length + 5) := by rw [c3.lenA]; simp only [List.length_append, List.length_cons, List.length_nil]; omega
      have hnc := c3.noAgg
      have hfc := c5 (hfb.new _)
      rw [next_new] at c2
      have kc := c6 s.next _ 144 0 0 (by rw [next_new]; omega) (by decide) (by rw [get_new, if_neg (by omega)]; exact kb)
      simp +contextual only [go_sem, ↓reduceIte, kc, hlc, hnc, ht, hwi, h23, hw, appK_some, Nat.reducePow, Nat.one_mul, Nat.mul_one, Nat.add_assoc, Nat.reduceAdd, lb1, ld1, lb2, ld2, lb3, ld3, lb4, ld4, lb5, ld5, not_false_eq_true, Nat.add_eq_left, ht1, hw1]
      refine IH (i + 1, _) _ _ (by simp only; omega) ⟨by simp only; omega, ?_, ?_, hfc, ?_, ?_, ?_, vc, ?_, c3⟩
      case refine_1 => simp only [List.append_assoc, List.cons_append, List.nil_append]; rw [← hE]; simp only [List.append_assoc, List.cons_append, List.nil_append]
      all_goals simp +contextual only [go_sem, ↓reduceIte, h21, h22, h23, hw, encS_ne (encSteps_ne hd), a2, b2, c2, e2]
      all_goals first | omega | skip
  · have : i = steps.length := by omega
    subst this
    rw [List.drop_length, tkSL, List.append_nil] at hE
    subst hE
    simp +contextual only [go_sem, ↓reduceIte, r66_l0, h22, h23, nat_lt_dec, Nat.lt_irrefl]
    exact hk _ _ v (by simp +contextual only [go_sem, ↓reduceIte, h5]) hv hn hfr
end Go.Am

set_option linter.all false
namespace Go.Am
open Go
variable [MaxLen]
set_option maxRecDepth 100000
set_option maxHeartbeats 8000000

/-- what a token can be -/
def tokAny (t : Str) : Bool := tokOk t || (t == [41] || (t == [44] || (t == [59] || t == [40])))
theorem tokAny_ne {t : Str} (h : tokAny t = true) : t ≠ [] := by rintro rfl; cases h
theorem tokAny_ok {t : Str} (h : tokOk t = true) : tokAny t = true := by rw [tokAny, h]; rfl
theorem beq_gt0 (i : Nat) : decide (((i + 1 : Nat) : Int) > 0) = true := by rw [decide_eq_true_eq]; omega
/-- whether the next token follows at once -/
def flagAt (ts : List Str) : Nat → Bool
  | 0 => true
  | n + 1 => match ts[n]? with
    | some t => t == [40]
    | none => true
theorem jn_at {ts : List Str} {i : Nat} (hd : i < ts.length) : jn (flagAt ts i) (ts.drop i) = (bif flagAt ts i || cont ts[i] then ts[i] else 32 :: ts[i]) ++ jn (flagAt ts (i + 1)) (ts.drop (i + 1)) := by
  rw [List.drop_eq_getElem_cons hd, jn, flagAt, List.getElem?_eq_getElem hd]

theorem flagAt_pos {ts : List Str} {i : Nat} (h0 : 0 < i) (hd : i - 1 < ts.length) : flagAt ts i = (ts[i - 1] == [40]) := by
  cases i with
  | zero => omega
  | succ n =>
    have e : ts[n]? = some (ts[n]'hd) := List.getElem?_eq_getElem hd
    rw [flagAt, e]
    rfl

theorem l66b (c129 : ∀ t, tokAny t = true → calV U 129 [.str [41, 44, 59, 40], .str t] = some (.bool (cont t))) {ts : List Str} (hts : ∀ t ∈ ts, tokAny t = true) (hb : (jn true ts).length ≤ 2 ^ 38) (hb0 : ts.length ≤ 2 ^ 38) {j b : Nat} {cap : Option Nat} {e : Env} {s : St} {ks : List K} {r : Option AV}
    (hj : j < b) (hg : s.get j = some (.cells (ts.map AV.str) 9 false 0 0)) (h5 : Env.get e 5 = .sl j 0 ts.length cap 1) (h54 : Env.get e 54 = .sl j 0 ts.length cap 1) (h55 : Env.get e 55 = .int .i64 ts.length) (h56 : Env.get e 56 = .int .i64 0) (h8 : Env.get e 8 = .ptr b 0) (hB : BldI s b []) (hfr : Fr s)
    (hk : ∀ e' s', Env.get e' 8 = .ptr b 0 → BldI s' b (jn true ts) → goX U (finP U [.tmp 2, .tmp 3]) ks 2 e' s' = r) : goL U (finP U [.tmp 2, .tmp 3]) ks r66_l1 e s = r := by
  refine loop_to (σ := Nat × Str) (fun x => ts.length - x.1) (fun _ => r) (fun x e s => x.1 ≤ ts.length ∧ x.2 ++ jn (flagAt ts x.1) (ts.drop x.1) = jn true ts ∧ s.get j = some (.cells (ts.map AV.str) 9 false 0 0) ∧ Env.get e 5 = .sl j 0 ts.length cap 1 ∧ Env.get e 54 = .sl j 0 ts.length cap 1 ∧ Env.get e 55 = .int .i64 ts.length ∧ Env.get e 56 = .int .i64 x.1 ∧ Env.get e 8 = .ptr b 0 ∧ BldI s b x.2 ∧ Fr s) (0, []) ?_ rfl ⟨Nat.zero_le _, rfl, hg, h5, h54, h55, h56, h8, hB, hfr⟩
  clear hg h5 h54 h55 h56 h8 hB hfr e s
  rintro L ⟨i, bs⟩ e s ⟨hi, hE, hg, h5, h54, h55, h56, h8, hB, hfr⟩ IH
  simp only at hi hE hg h5 h54 h55 h56 h8 hB hfr IH ⊢
  by_cases hd : i < ts.length
  · have hx : (ts.map AV.str)[i]? = some (.str ts[i]) := by rw [List.getElem?_map, List.getElem?_eq_getElem hd]; rfl
    have hw := wrap_succ (n := ts.length) hd (by omega)
    have hti := hts ts[i] (List.getElem_mem hd)
    have h129 := c129 ts[i] hti
    have htn := tokAny_ne hti
    have hE0 := hE
    rw [jn_at hd] at hE
    have hl := congrArg List.length hE
    simp only [List.length_append] at hl
    have fin1 : ∀ (e1 : Env) (s1 : St) (bs1 : Str), Env.get e1 5 = .sl j 0 ts.length cap 1 → Env.get e1 54 = .sl j 0 ts.length cap 1 → Env.get e1 55 = .int .i64 ts.length → Env.get e1 56 = .int .i64 ((i + 1 : Nat) : Int) → Env.get e1 8 = .ptr b 0 → BldI s1 b bs1 → Fr s1 → s1.get j = some (.cells (ts.map AV.str) 9 false 0 0) → bs1 ++ jn (flagAt ts (i + 1)) (ts.drop (i + 1)) = jn true ts →
        goL U (finP U [.tmp 2, .tmp 3]) ks L e1 s1 = r := fun e1 s1 bs1 q5 q54 q55 q56 q8 qB qf qg qE => IH (i + 1, bs1) _ _ (by simp only; omega) ⟨by simp only; omega, qE, qg, q5, q54, q55, q56, q8, qB, qf⟩
    by_cases h0 : 0 < i
    · have hgt : decide ((i : Int) > 0) = true := by rw [decide_eq_true_eq]; omega
      have hw1 : IntKind.i64.wrap ((i : Int) - 1) = ((i - 1 : Nat) : Int) := by rw [wrap_i64 (by omega) (by omega)]; omega
      have hd1 : i - 1 < ts.length := by omega
      have hx1 : (ts.map AV.str)[i - 1]? = some (.str ts[i - 1]) := by rw [List.getElem?_map, List.getElem?_eq_getElem hd1]; rfl
      have hfl : flagAt ts i = (ts[i - 1] == [40]) := flagAt_pos h0 hd1
      cases hcn : cont ts[i]
      · cases hop : ts[i - 1] == [40]
        · rw [hfl, hop, hcn] at hE hl
          simp only [Bool.or_self, cond_false, List.length_cons] at hE hl
          rw [hcn] at h129
          obtain ⟨s1, f1, f2, f3, f4, f5⟩ := c130 hB hfr 32 (by omega)
          have f1' : cal U 130 [.ptr b 0, .int .u8 32] s = some (.nili, s1) := f1
          obtain ⟨s2, r2, g1, g2, g3, g4, g5⟩ := c131 f2 f3 ts[i] htn (by simp only [List.length_append, List.length_singleton]; omega)
          simp +contextual only [go_sem, ↓reduceIte, r66_l1, h5, h54, h55, h56, h8, hg, hx, hd, hx1, hd1, hw, hw1, hgt, h129, hop, nat_lt_dec, Nat.mul_one, k130', k131', f1', g1]
          refine fin1 _ _ (bs ++ [32] ++ ts[i]) ?_ ?_ ?_ ?_ ?_ g2 g3 (by rw [g5 j hj, f5 j hj, hg]) (by rw [← hE]; simp [List.append_assoc])
          all_goals simp +contextual only [go_sem, ↓reduceIte, h5, h54, h55, h56, h8, hw]
        · rw [hfl, hop] at hE hl
          simp only [Bool.true_or, cond_true] at hE hl
          rw [hcn] at h129
          obtain ⟨s2, r2, g1, g2, g3, g4, g5⟩ := c131 hB hfr ts[i] htn (by omega)
          simp +contextual only [go_sem, ↓reduceIte, r66_l1, h5, h54, h55, h56, h8, hg, hx, hd, hx1, hd1, hw, hw1, hgt, h129, hop, nat_lt_dec, Nat.mul_one, k130', k131', g1]
          refine fin1 _ _ (bs ++ ts[i]) ?_ ?_ ?_ ?_ ?_ g2 g3 (by rw [g5 j hj, hg]) (by rw [← hE]; simp [List.append_assoc])
          all_goals simp +contextual only [go_sem, ↓reduceIte, h5, h54, h55, h56, h8, hw]
      · rw [hcn] at hE hl h129
        simp only [Bool.or_true, cond_true] at hE hl
        obtain ⟨s2, r2, g1, g2, g3, g4, g5⟩ := c131 hB hfr ts[i] htn (by omega)
        simp +contextual only [go_sem, ↓reduceIte, r66_l1, h5, h54, h55, h56, h8, hg, hx, hd, hw, hgt, h129, nat_lt_dec, Nat.mul_one, k130', k131', g1]
        refine fin1 _ _ (bs ++ ts[i]) ?_ ?_ ?_ ?_ ?_ g2 g3 (by rw [g5 j hj, hg]) (by rw [← hE]; simp [List.append_assoc])
        all_goals simp +contextual only [go_sem, ↓reduceIte, h5, h54, h55, h56, h8, hw]
    · have hi0 : i = 0 := by omega
      have hgt : decide ((i : Int) > 0) = false := by rw [decide_eq_false_iff_not]; omega
      have hfl : flagAt ts i = true := by rw [hi0]; rfl
      rw [hfl] at hE hl
      simp only [Bool.true_or, cond_true] at hE hl
      obtain ⟨s2, r2, g1, g2, g3, g4, g5⟩ := c131 hB hfr ts[i] htn (by omega)
      simp +contextual only [go_sem, ↓reduceIte, r66_l1, h5, h54, h55, h56, h8, hg, hx, hd, hw, hgt, nat_lt_dec, Nat.mul_one, k130', k131', g1]
      refine fin1 _ _ (bs ++ ts[i]) ?_ ?_ ?_ ?_ ?_ g2 g3 (by rw [g5 j hj, hg]) (by rw [← hE]; simp [List.append_assoc])
      all_goals simp +contextual only [go_sem, ↓reduceIte, h5, h54, h55, h56, h8, hw]
  · have : i = ts.length := by omega
    subst this
    rw [List.drop_length, jn, List.append_nil] at hE
    subst hE
    simp +contextual only [go_sem, ↓reduceIte, r66_l1, h55, h56, nat_lt_dec, Nat.lt_irrefl]
    exact hk _ _ (by simp +contextual only [go_sem, ↓reduceIte, h8]) hB

theorem toks_any : ∀ c : Cond, c.pv → ∀ t ∈ tkP c, tokAny t = true := by
  intro c
  induction c using Cond.ind with
  | h k a b mi ma pat nl kids ih =>
  intro h t ht
  rw [Cond.pv] at h
  obtain ⟨h1, _, _, _, _, _, h7, _, h9⟩ := h
  have hn : ∀ (fs : List (Bool × Int)) (t : Str), t ∈ numsT fs → tokAny t = true := by
    intro fs
    induction fs with
    | nil => intro t ht; cases ht
    | cons f fs ihf =>
      intro t ht
      rw [numsT] at ht
      rcases List.mem_append.1 ht with h | h
      · cases hf : f.1 <;> rw [hf] at h
        · cases h
        · simp only [cond_true, List.mem_singleton] at h
          subst h; exact tokAny_ok (dg_tok _)
      · exact ihf t h
  have hkk : ∀ ks : List Cond, (∀ x ∈ ks, x ∈ kids) → ∀ (f : Bool) (t : Str), t ∈ tkPL f ks → tokAny t = true := by
    intro ks
    induction ks with
    | nil => intro _ f t ht; rw [tkPL] at ht; cases ht
    | cons c ks ihk =>
      intro hm f t ht
      rw [tkPL] at ht
      rcases List.mem_cons.1 ht with rfl | ht
      · cases f <;> rfl
      · rcases List.mem_append.1 ht with h | h
        · exact ih c (hm c (List.mem_cons_self ..)) (h9 c (hm c (List.mem_cons_self ..))) t h
        · exact ihk (fun x hx => hm x (List.mem_cons_of_mem _ hx)) false t h
  rw [tkP] at ht
  rcases List.mem_cons.1 ht with rfl | ht
  · exact tokAny_ok (kd_tok h1).2
  rcases List.mem_append.1 ht with h | ht
  · exact hn _ t h
  rcases List.mem_append.1 ht with h | ht
  · cases hu : (usesOf (kdOf k)).pat <;> rw [hu] at h
    · cases h
    · simp only [cond_true, List.mem_singleton] at h
      subst h; exact tokAny_ok (h7 hu)
  rcases List.mem_append.1 ht with h | h
  · exact hkk kids (fun _ h => h) true t h
  · cases hu : (usesOf (kdOf k)).kids <;> rw [hu] at h
    · cases h
    · simp only [cond_true, List.mem_singleton] at h
      subst h; rfl
theorem toks_anyL : ∀ l : List Step, (∀ s ∈ l, s.pv) → ∀ t ∈ tkSL l, tokAny t = true
  | [], _, t, ht => by cases ht
  | s :: l, h, t, ht => by
    rw [tkSL] at ht
    rcases List.mem_append.1 ht with ht | ht
    · rw [tkS] at ht
      rcases List.mem_append.1 ht with ht | ht
      · exact toks_any s.cond (h s (List.mem_cons_self ..)).1 t ht
      · cases h1 : s.times != 1 <;> cases h2 : s.within != 0 <;> rw [h1, h2] at ht <;> simp only [cond_true, cond_false, List.nil_append, List.cons_append, List.mem_cons, List.not_mem_nil, or_false] at ht
        · subst ht; rfl
        · rcases ht with rfl | rfl | rfl
          · rfl
          · exact tokAny_ok (dg_tok _)
          · rfl
        · rcases ht with rfl | rfl | rfl
          · rfl
          · exact tokAny_ok (dg_tok _)
          · rfl
        · rcases ht with rfl | rfl | rfl | rfl | rfl
          · rfl
          · exact tokAny_ok (dg_tok _)
          · rfl
          · exact tokAny_ok (dg_tok _)
          · rfl
    · exact toks_anyL l (fun x hx => h x (List.mem_cons_of_mem _ hx)) t ht
theorem toks_anyP {p : Prog} (h : p.pv) : ∀ t ∈ toksP p, tokAny t = true := by
  intro t ht
  rw [toksP] at ht
  rcases List.mem_cons.1 ht with rfl | ht
  · rfl
  rcases List.mem_cons.1 ht with rfl | ht
  · exact tokAny_ok (dg_tok _)
  rcases List.mem_cons.1 ht with rfl | ht
  · rfl
  · exact toks_anyL _ h.2.2 t ht
theorem tkSL_len : ∀ {l : List Step}, (∀ s ∈ l, s.pv) → (tkSL l).length ≤ l.length * 2 ^ 25
  | [], _ => by simp [tkSL]
  | s :: l, h => by
    have a1 := tkP_len s.cond
    have a2 := tkSL_len fun x hx => h x (List.mem_cons_of_mem _ hx)
    have a3 := (h s (List.mem_cons_self ..)).2.1
    have b1 : (bif s.times != 1 then [[116, 105, 109, 101, 115], dg s.times] else []).length ≤ 2 := by cases s.times != 1 <;> simp
    have b2 : (bif s.within != 0 then [[119, 105, 116, 104, 105, 110], dg s.within] else []).length ≤ 2 := by cases s.within != 0 <;> simp
    rw [tkSL, tkS, List.length_cons, Nat.add_mul]
    simp only [List.length_append, List.length_cons, List.length_nil]
    omega

theorem c66 (c127 : ∀ n : Int, 0 ≤ n → n ≤ 255 → calV U 127 [.int .i64 n] = some (.str (dg n))) (c129 : ∀ t, tokAny t = true → calV U 129 [.str [41, 44, 59, 40], .str t] = some (.bool (cont t)))
    (c133 : ∀ (s : St) (b : Nat) (bs : Str), BldI s b bs → bs.length ≤ 2 ^ 39 → ∃ s', cal U 133 [.ptr b 0] s = some (.str bs, s'))
    (p : Prog) (h : p.pv) (hf : p.fits) (hok : cpR p = 0) : calV U 66 [encP p] = some (outR p) := by
  have h64 := c64 p hf
  rw [cp_eq, hok] at h64
  have hT := jn_prog h
  have hTL := textR_len h
  have hany := toks_anyP h
  have hlen := tkSL_len h.2.2
  have hst := h.2.2
  have hn8 := h.2.1
  have hdl := c127 _ h.1.1 h.1.2
  rw [outR, ← hT]
  rw [← hT] at hTL
  have hb2 : (toksP p).length ≤ 2 ^ 29 := by
    rw [toksP]
    have : p.steps.length * 2 ^ 25 ≤ 8 * 2 ^ 25 := Nat.mul_le_mul_right _ hn8
    simp only [List.length_cons]; omega
  obtain ⟨lines, nl, steps⟩ := p
  simp only at hst hn8 hdl
  refine pure_go k66 (by kernel_rfl) (by simp [stills, still_encP]) ?_
  rw [encP_eq] at h64 ⊢
  simp (config := { maxSteps := 2000000 }) +contextual only [go_sem, ↓reduceIte, r66, h64, hdl, lenL_encS, encSteps_len, cells_encS, noAgg_encS]
  refine l66a c127 hst [[108, 105, 110, 101, 115], dg lines, [59]] (by rw [toksP] at hb2; simp only [List.length_append, List.length_cons, List.length_nil] at hb2 ⊢; omega) hn8 (nl := nl) (v0 := .sl 9 0 3 (some 3) 1) ?_ ⟨by simp, 9, ?_, ?_, .inr ⟨Nat.le_refl _, rfl⟩⟩ ?_ ?_ ?_ ?_ ?_ ?_
  case refine_5 =>
    repeat first | exact Fr.own | apply Fr.new | apply Fr.put | apply Fr.upto
    all_goals simp +contextual only [go_sem, ↓reduceIte]
  case refine_9 =>
    intro e s v h5 hv hn hfr
    have hll := hv.lenL
    have htk : [[108, 105, 110, 101, 115], dg lines, [59]] ++ tkSL steps = toksP ⟨lines, nl, steps⟩ := rfl
    rw [htk] at hll hv
    obtain ⟨hne, j, hj, hg, hcase⟩ := hv
    have hv' : ∃ cap, v = .sl j 0 (toksP ⟨lines, nl, steps⟩).length cap 1 := by
      rcases hcase with ⟨_, rfl⟩ | ⟨_, rfl⟩
      · exact ⟨_, rfl⟩
      · exact ⟨_, rfl⟩
    obtain ⟨cap, rfl⟩ := hv'
    simp (config := { maxSteps := 2000000 }) +contextual only [go_sem, ↓reduceIte, h5, hll]
    refine l66b c129 hany (by omega) (by omega) (j := j) (b := s.next) (cap := cap) hj ?_ ?_ ?_ ?_ ?_ ?_ ⟨.nilp, .nils, ?_, .inl rfl, ?_, RowI.nil _ _ _ _⟩ (hfr.new _) ?_
    case refine_9 =>
      intro e' s' g8 gB
      obtain ⟨s'', h133⟩ := c133 s' _ _ gB (by omega)
      have h132 := c132 gB
      simp (config := { maxSteps := 2000000 }) +contextual only [go_sem, ↓reduceIte, g8, k132', k133', h132, h133]
    have hne : ¬ s.next = j := by omega
    all_goals simp +contextual only [go_sem, ↓reduceIte, h5, hg, hne]
    all_goals first | omega | rfl | skip
  all_goals simp +contextual only [go_sem, ↓reduceIte]
  all_goals rfl
end Go.Am

set_option linter.all false
namespace Go.Am
open Go
variable [MaxLen]
set_option maxRecDepth 100000
set_option maxHeartbeats 8000000

/-! # Programs in order can be printed; programs in the other package's types -/

theorem badPat_ok {pat : Str} {lines : Int} (h : badPat pat lines = false) (hl : 1 ≤ lines) (hl' : lines ≤ 16) : pat.length ≤ 40 ∧ tokOk pat = true := by
  rw [badPat, Bool.or_eq_false_iff] at h
  obtain ⟨h1, h2⟩ := h
  have hlen : (pat.length : Int) = lines := by simpa using h1
  refine ⟨by omega, ?_⟩
  cases pat with
  | nil => simp at hlen; omega
  | cons c l =>
    rw [List.any_cons, Bool.or_eq_false_iff] at h2
    have hc := h2.1
    rw [tokOk]
    have : ∀ d : UInt8, (c != 48 && c != 49 && c != 120) = false → d ≠ 48 → d ≠ 49 → d ≠ 120 → (c == d) = false := fun d hh a1 a2 a3 => by
      rw [beq_eq_false_iff_ne]; rintro rfl
      simp [a1, a2, a3] at hh
    rw [this 40 hc (by decide) (by decide) (by decide), this 41 hc (by decide) (by decide) (by decide), this 44 hc (by decide) (by decide) (by decide), this 59 hc (by decide) (by decide) (by decide)]
    rfl
theorem pv_of {lines : Int} (hl : 1 ≤ lines) (hl' : lines ≤ 16) : ∀ (c : Cond) (d : Int), ckR lines c d = 0 → c.pv := by
  intro c
  induction c using Cond.ind with
  | h k a b mi ma pat nl kids ih =>
  intro d h
  rw [ckR] at h
  obtain ⟨_, h⟩ := br_zero (by omega) h
  obtain ⟨hk, h⟩ := br_zero (by omega) h
  obtain ⟨hu, h⟩ := br_zero (by omega) h
  obtain ⟨ho, h⟩ := br_zero (by omega) h
  obtain ⟨_, h⟩ := br_zero (by omega) h
  obtain ⟨hm, h⟩ := br_zero (by omega) h
  obtain ⟨_, h⟩ := br_zero (by omega) h
  obtain ⟨hp, h⟩ := br_zero (by omega) h
  obtain ⟨_, h⟩ := br_zero (by omega) h
  obtain ⟨_, h⟩ := br_zero (by omega) h
  obtain ⟨h8, h⟩ := br_zero (by omega) h
  have hkids := ckRL_mem h
  have hw : IntKind.i64.wrap (lines - 1) = lines - 1 := wrap_i64 (by omega) (by omega)
  rw [hw] at ho
  have hk : (kdOf k).known = true := by simpa using hk
  rw [Cond.pv]
  generalize hU : usesOf (kdOf k) = u at *
  obtain ⟨ua, ub, um, ux, up, uk⟩ := u
  simp only [Bool.or_eq_false_iff] at hu ho hm
  obtain ⟨⟨⟨⟨⟨u1, u2⟩, u3⟩, u4⟩, u5⟩, u6⟩ := hu
  have z : ∀ {p : Bool} {n : Int}, (!p && n != 0) = false → p = false → n = 0 := fun {p n} h hp => by subst hp; simpa using h
  refine ⟨hk, ?_, ?_, ?_, ?_, ?_, ?_, ?_, fun x hx => ih x hx _ (hkids x hx)⟩
  · cases ua
    · have := z u1 rfl; omega
    · have := outside_false (by simpa using ho.1 : outside a 0 (lines - 1) = false); omega
  · cases ub
    · have := z u2 rfl; omega
    · have := outside_false (by simpa using ho.2 : outside b 0 (lines - 1) = false); omega
  · cases um
    · have := z u3 rfl; omega
    · have := outside_false (by simpa using hm.1 : outside mi 1 255 = false); omega
  · cases ux
    · have := z u4 rfl; omega
    · have := outside_false (by simpa using hm.2 : outside ma 1 255 = false); omega
  · cases up
    · have : pat = [] := by simpa using u5
      rw [this]; simp
    · exact (badPat_ok (by simpa using hp) hl hl').1
  · intro hp'
    simp only at hp'
    subst hp'
    exact (badPat_ok (by simpa using hp) hl hl').2
  · cases uk
    · have : kids.length = 0 := by simpa using u6
      omega
    · simp only [Bool.true_and, decide_eq_false_iff_not] at h8; omega
theorem Prog.ok.pv {p : Prog} (h : p.ok) (hl : ∀ s ∈ p.steps, leaves s.cond < 2 ^ 20) : p.pv :=
  ⟨⟨by have := h.lines; omega, by have := h.lines; omega⟩, h.few, fun s hs => ⟨pv_of h.lines.1 h.lines.2 _ _ (h.cond s hs), hl s hs, ⟨by have := h.tm s hs; omega, by have := h.tm s hs; omega⟩, h.wi s hs⟩⟩

/-! nil or not makes no difference -/
theorem normL_len (l : List Cond) : (normL l).length = l.length := by rw [normL_map]; simp
theorem ckR_norm (lines : Int) : ∀ (c : Cond) (d : Int), ckR lines c.norm d = ckR lines c d := by
  intro c
  induction c using Cond.ind with
  | h k a b mi ma pat nl kids ih =>
  intro d
  have hL : ∀ l : List Cond, (∀ x ∈ l, x ∈ kids) → ∀ d, ckRL lines (normL l) d = ckRL lines l d := by
    intro l
    induction l with
    | nil => intro _ d; rfl
    | cons c l ihl =>
      intro hm d
      rw [normL, ckRL, ckRL, ih c (hm c (List.mem_cons_self ..)), ihl fun x hx => hm x (List.mem_cons_of_mem _ hx)]
  rw [Cond.norm, ckR, ckR, normL_len, hL kids fun _ h => h]
theorem szP_norm : ∀ c : Cond, szP c.norm = szP c := by
  intro c
  induction c using Cond.ind with
  | h k a b mi ma pat nl kids ih =>
  have hL : ∀ l : List Cond, (∀ x ∈ l, x ∈ kids) → ∀ d, szPL (normL l) d = szPL l d := by
    intro l
    induction l with
    | nil => intro _ d; rfl
    | cons c l ihl =>
      intro hm d
      rw [normL, szPL, szPL, ih c (hm c (List.mem_cons_self ..)), ihl fun x hx => hm x (List.mem_cons_of_mem _ hx)]
  rw [Cond.norm, szP, szP, hL kids fun _ h => h]
  rfl
theorem prR_norm : ∀ c : Cond, prR c.norm = prR c := by
  intro c
  induction c using Cond.ind with
  | h k a b mi ma pat nl kids ih =>
  have hL : ∀ l : List Cond, (∀ x ∈ l, x ∈ kids) → ∀ f, prRL f (normL l) = prRL f l := by
    intro l
    induction l with
    | nil => intro _ f; rfl
    | cons c l ihl =>
      intro hm f
      rw [normL, prRL, prRL, ih c (hm c (List.mem_cons_self ..)), ihl fun x hx => hm x (List.mem_cons_of_mem _ hx)]
  rw [Cond.norm, prR, prR, hL kids fun _ h => h]
theorem leaves_norm : ∀ c : Cond, leaves c.norm = leaves c := by
  intro c
  induction c using Cond.ind with
  | h k a b mi ma pat nl kids ih =>
  have hL : ∀ l : List Cond, (∀ x ∈ l, x ∈ kids) → leavesL (normL l) = leavesL l := by
    intro l
    induction l with
    | nil => intro _; rfl
    | cons c l ihl =>
      intro hm
      rw [normL, leavesL, leavesL, ih c (hm c (List.mem_cons_self ..)), ihl fun x hx => hm x (List.mem_cons_of_mem _ hx)]
  rw [Cond.norm, leaves, leaves, hL kids fun _ h => h]
theorem fits_norm : ∀ c : Cond, c.fits → c.norm.fits := by
  intro c
  induction c using Cond.ind with
  | h k a b mi ma pat nl kids ih =>
  intro h
  rw [Cond.fits] at h
  rw [Cond.norm, Cond.fits, normL_len]
  refine ⟨h.1, h.2.1, fun x hx => ?_⟩
  rw [normL_map] at hx
  obtain ⟨y, hy, rfl⟩ := List.mem_map.1 hx
  exact ih y hy (h.2.2 y hy)
theorem cpRL_norm (lines : Int) : ∀ (l : List Step) (i : Nat), cpRL lines i (l.map Step.norm) = cpRL lines i l
  | [], _ => rfl
  | s :: l, i => by
    rw [List.map_cons, cpRL, cpRL, cpRL_norm lines l]
    simp only [Step.norm, ckR_norm]
theorem cpR_norm (p : Prog) : cpR p.norm = cpR p := by
  rw [cpR, cpR, Prog.norm]
  simp only [List.length_map, cpRL_norm]
theorem stepsP_norm : ∀ (l : List Step) (n x : Int), stepsP (l.map Step.norm) n x = stepsP l n x
  | [], _, _ => rfl
  | s :: l, n, x => by
    rw [List.map_cons, stepsP, stepsP, stepsP_norm l]
    simp only [Step.norm, szP_norm]
theorem sizeP_norm (p : Prog) : sizeP p.norm = sizeP p := by
  rw [sizeP, sizeP, Prog.norm]
  simp only [stepsP_norm]
theorem prSL_norm : ∀ l : List Step, prSL (l.map Step.norm) = prSL l
  | [] => rfl
  | s :: l => by
    rw [List.map_cons, prSL, prSL, prSL_norm l, prS, prS]
    simp only [Step.norm, prR_norm]
theorem textR_norm (p : Prog) : textR p.norm = textR p := by
  rw [textR, textR, Prog.norm]
  simp only [prSL_norm]
theorem outR_norm (p : Prog) : outR p.norm = outR p := by rw [outR, outR, textR_norm]
theorem Prog.fits_norm {p : Prog} (h : p.fits) : p.norm.fits := by
  refine ⟨by rw [Prog.norm]; simpa using h.1, fun s hs => ?_⟩
  rw [Prog.norm] at hs
  obtain ⟨y, hy, rfl⟩ := List.mem_map.1 hs
  exact Am.fits_norm _ (h.2 y hy)

theorem c66_bad (p : Prog) (hf : p.fits) (h : cpR p ≠ 0) : calV U 66 [encP p] = some (.tup [.str [], .int .i64 (cpR p)]) := by
  have h64 := c64 p hf
  rw [cp_eq] at h64
  have hb : (cpR p != 0) = true := by simpa using h
  refine pure_go k66 (by kernel_rfl) (by simp [stills, still_encP]) ?_
  rw [encP_eq] at h64 ⊢
  simp (config := { maxSteps := 2000000 }) +contextual only [go_sem, ↓reduceIte, r66, h64, hb, noAgg_encS, cells_encS]
def intg (n e bad want : Int) : Bool := br (bad != 0) (n == 0 && e == bad) (e == 0 && n == want)
theorem c54 (n e bad want : Int) : calV U 54 [.int .i64 n, .int .i64 e, .int .i64 bad, .int .i64 want] = some (.bool (intg n e bad want)) := by
  refine pure_go k54 (by kernel_rfl) rfl ?_
  simp (config := { maxSteps := 2000000 }) +contextual only [go_sem, ↓reduceIte, r54]
  rfl
theorem c11 (aw : calV U 16 [] = some (.bool true)) (c127 : ∀ n : Int, 0 ≤ n → n ≤ 255 → calV U 127 [.int .i64 n] = some (.str (dg n))) (c129 : ∀ t, tokAny t = true → calV U 129 [.str [41, 44, 59, 40], .str t] = some (.bool (cont t)))
    (c133 : ∀ (s : St) (b : Nat) (bs : Str), BldI s b bs → bs.length ≤ 2 ^ 39 → ∃ s', cal U 133 [.ptr b 0] s = some (.str bs, s'))
    (p : Prog) : calV U 11 [encP p] = some (.bool true) := by
  refine pure_go k11 (by kernel_rfl) (by simp [stills, still_encP]) ?_
  have h31 := c31 p 20
  cases hs : short p 20
  · rw [hs] at h31
    rw [encP_eq] at h31 ⊢
    simp (config := { maxSteps := 2000000 }) +contextual only [go_sem, ↓reduceIte, r11, aw, h31, noAgg_encS, cells_encS]
  · rw [hs] at h31
    have hf := short_fits hs
    have hfn := Prog.fits_norm hf
    have h34 := c34 p hf
    have h33 := c33 p hf
    have h64 := c64 p.norm hfn
    rw [cp_eq, cpR_norm] at h64
    by_cases hb : cpR p = 0
    · have hok := ok_of hb
      have hokn := ok_of ((cpR_norm p).trans hb)
      have hlv : ∀ s ∈ p.steps, leaves s.cond < 2 ^ 20 := fun s hs' => by have := ((short_spec hs).2 s hs').2; omega
      have hlvn : ∀ s ∈ p.norm.steps, leaves s.cond < 2 ^ 20 := fun s hs' => by
        rw [Prog.norm] at hs'
        obtain ⟨y, hy, rfl⟩ := List.mem_map.1 hs'
        rw [Step.norm]; simp only [leaves_norm]; exact hlv y hy
      have hpv := hok.pv hlv
      have hpvn := hokn.pv hlvn
      have h65 := c65_ok p.norm hfn ((cpR_norm p).trans hb)
      have h66 := c66 c127 c129 c133 p.norm hpvn hfn ((cpR_norm p).trans hb)
      have h38 := c38 p hf ⟨by have := hok.lines; omega, hok.lines.2⟩
      have h67 := c67 p hpv
      have h54 := c54 (sizeP p) 0 0 (sizeR p)
      rw [size_eq hok] at h38 h54
      have hi : intg (sizeP p) 0 0 (sizeP p) = true := by simp [intg, br]
      rw [hi] at h54
      rw [hb] at h34 h64
      rw [sizeP_norm] at h65
      rw [outR_norm, outR] at h66
      rw [outR] at h67
      generalize sizeP p = sz at *
      rw [encP_eq] at h31 h34 h33 h38 h67 ⊢
      cases hbig : decide (((textR p).length : Int) > 4096) <;> rw [hbig] at h66 h67 <;> simp only [br_true, br_false] at h66 h67 <;> generalize textR p = tx at *
      all_goals generalize hN : encP p.norm = N at *
      all_goals simp (config := { maxSteps := 2000000 }) +contextual only [go_sem, ↓reduceIte, r11, aw, h31, h34, h33, h64, h65, h66, h38, h67, h54, noAgg_encS, cells_encS, beq_self_eq_true, bne_self_eq_false]
    · have h65 := c65_bad p.norm hfn (by rw [cpR_norm]; exact hb)
      have h66 := c66_bad p.norm hfn (by rw [cpR_norm]; exact hb)
      rw [cpR_norm] at h65 h66
      have h54 := c54 0 (cpR p) (cpR p) 0
      have hbb : (cpR p != 0) = true := by simpa using hb
      have hbe : (cpR p == 0) = false := by simpa using hb
      have hi : intg 0 (cpR p) (cpR p) 0 = true := by simp [intg, br, hbb]
      rw [hi] at h54
      generalize cpR p = bad at *
      rw [encP_eq] at h31 h34 h33 ⊢
      generalize hN : encP p.norm = N at *
      simp (config := { maxSteps := 2000000 }) +contextual only [go_sem, ↓reduceIte, r11, aw, h31, h34, h33, h64, h65, h66, h54, hbe, noAgg_encS, cells_encS, beq_self_eq_true, bne_self_eq_false]
end Go.Am

set_option linter.all false
namespace Go.Am
open Go
variable [MaxLen]
set_option maxRecDepth 100000
/-- (*strings.Builder).String; results .tmp 2 -/
def r133 : RC := (.seq (.ops [⟨some 2, none, none, false, .mov (.v (.str []))⟩]) (.seq (.drw 12 [⟨some 3, none, none, false, .mov (.t 0)⟩,
  ⟨some 4, none, none, false, .raw (.nilCheck (.tmp 3))⟩,
  ⟨some 5, none, none, false, .fa 1 (.t 4)⟩,
  ⟨some 6, none, none, false, .ld1 (.t 5)⟩,
  ⟨some 7, none, none, false, .raw (.call { callee := .builtin .unsafeSliceData, args := #[(.tmp 6)], argTypes := #[205] })⟩,
  ⟨some 8, none, none, false, .mov (.t 0)⟩,
  ⟨some 9, none, none, false, .raw (.nilCheck (.tmp 8))⟩,
  ⟨some 10, none, none, false, .fa 1 (.t 9)⟩,
  ⟨some 11, none, none, false, .ld1 (.t 10)⟩,
  ⟨some 12, none, none, false, .lenL (.t 11)⟩,
  ⟨some 13, none, none, true, .raw (.call { callee := .builtin .unsafeString, args := #[(.tmp 7), (.tmp 12)], argTypes := #[269, 3] })⟩,
  ⟨some 2, none, none, false, .mov (.t 13)⟩]) .ret))
theorem k133 : fnRC 133 = some ([.tmp 2], r133) := by kernel_rfl

/-- internal/stringslite.IndexByte; results .tmp 4 -/
def r249 : RC := (.seq (.ops [⟨some 4, none, none, false, .mov (.v (.int .i64 0))⟩]) (.seq (.ops [⟨some 5, none, none, false, .mov (.t 0)⟩,
  ⟨some 6, none, none, false, .mov (.t 1)⟩,
  ⟨some 7, none, none, false, .call 272 [(.t 5), (.t 6)]⟩,
  ⟨some 4, none, none, false, .mov (.t 7)⟩]) .ret))
theorem k249 : fnRC 249 = some ([.tmp 4], r249) := by kernel_rfl

def r220_l0 : RC := (.seq (.seq (.ops [⟨some 57, none, none, false, .mov (.t 8)⟩,
  ⟨some 58, none, none, false, .mov (.t 9)⟩,
  ⟨some 59, none, none, false, .bin .lss 3 false (.t 57) (.t 58)⟩]) (.cond (.t 59) .skip (.exit 1))) (.block 2 (.seq (.seq (.ops [⟨some 60, none, none, false, .mov (.t 0)⟩,
  ⟨some 61, none, none, false, .mov (.t 8)⟩,
  ⟨some 62, none, none, false, .ixs (.t 60) (.t 61)⟩,
  ⟨some 63, none, none, false, .mov (.t 6)⟩,
  ⟨some 64, none, none, false, .bin .neq 5 false (.t 62) (.t 63)⟩]) (.cond (.t 64) (.seq (.ops [⟨some 65, none, none, false, .mov (.t 0)⟩,
  ⟨some 66, none, none, false, .mov (.t 8)⟩,
  ⟨some 67, none, none, false, .bin .add 3 true (.t 66) (.v (.int .i64 1))⟩,
  ⟨some 68, none, none, false, .mov (.t 9)⟩,
  ⟨some 69, none, none, false, .sls (.t 65) (some (.t 67)) (some (.t 68))⟩,
  ⟨some 70, none, none, false, .mov (.t 6)⟩,
  ⟨some 71, none, none, false, .call 249 [(.t 69), (.t 70)]⟩,
  ⟨some 11, none, none, false, .mov (.t 71)⟩]) (.seq (.seq (.ops [⟨some 72, none, none, false, .mov (.t 11)⟩,
  ⟨some 73, none, none, false, .bin .lss 3 true (.t 72) (.v (.int .i64 0))⟩]) (.cond (.t 73) (.seq (.ops [⟨some 4, none, none, false, .mov (.v (.int .i64 (-1)))⟩]) .ret) .skip)) (.ops [⟨some 74, none, none, false, .mov (.t 8)⟩,
  ⟨some 75, none, none, false, .mov (.t 11)⟩,
  ⟨some 76, none, none, false, .bin .add 3 true (.t 75) (.v (.int .i64 1))⟩,
  ⟨some 77, none, none, false, .bin .add 3 false (.t 74) (.t 76)⟩,
  ⟨some 8, none, none, false, .mov (.t 77)⟩]))) .skip)) (.seq (.seq (.ops [⟨some 78, none, none, false, .mov (.t 0)⟩,
  ⟨some 79, none, none, false, .mov (.t 8)⟩,
  ⟨some 80, none, none, false, .bin .add 3 true (.t 79) (.v (.int .i64 1))⟩,
  ⟨some 81, none, none, false, .ixs (.t 78) (.t 80)⟩,
  ⟨some 82, none, none, false, .mov (.t 7)⟩,
  ⟨some 83, none, none, false, .bin .eql 5 false (.t 81) (.t 82)⟩,
  ⟨some 84, none, none, false, .mov (.t 83)⟩,
  ⟨some 85, some (84, true), none, false, .mov (.t 0)⟩,
  ⟨some 86, some (84, true), none, false, .mov (.t 8)⟩,
  ⟨some 87, some (84, true), none, false, .mov (.t 8)⟩,
  ⟨some 88, some (84, true), none, false, .mov (.t 5)⟩,
  ⟨some 89, some (84, true), none, false, .bin .add 3 false (.t 87) (.t 88)⟩,
  ⟨some 90, some (84, true), none, false, .sls (.t 85) (some (.t 86)) (some (.t 89))⟩,
  ⟨some 91, some (84, true), none, false, .mov (.t 1)⟩,
  ⟨some 92, some (84, true), none, false, .bin .eql 9 false (.t 90) (.t 91)⟩,
  ⟨some 93, none, none, false, .pick (.t 84) (.t 92) (.v (.bool false))⟩]) (.cond (.t 93) (.seq (.ops [⟨some 94, none, none, false, .mov (.t 8)⟩,
  ⟨some 4, none, none, false, .mov (.t 94)⟩]) .ret) .skip)) (.seq (.ops [⟨some 95, none, none, false, .mov (.t 8)⟩,
  ⟨some 96, none, none, false, .bin .add 3 true (.t 95) (.v (.int .i64 1))⟩,
  ⟨some 8, none, none, false, .mov (.t 96)⟩]) (.seq (.ops [⟨some 97, none, none, false, .mov (.t 10)⟩,
  ⟨some 98, none, none, false, .bin .add 3 true (.t 97) (.v (.int .i64 1))⟩,
  ⟨some 10, none, none, false, .mov (.t 98)⟩]) (.seq (.ops [⟨some 99, none, none, false, .mov (.t 5)⟩,
  ⟨some 100, none, none, false, .ld1 (.v (.ptr 0 0))⟩,
  ⟨some 101, none, none, false, .bin .leq 3 false (.t 99) (.t 100)⟩,
  ⟨some 102, none, none, false, .mov (.t 101)⟩,
  ⟨some 103, some (102, true), none, false, .mov (.t 10)⟩,
  ⟨some 104, some (102, true), none, false, .mov (.t 8)⟩,
  ⟨some 105, some (102, true), none, false, .call 251 [(.t 104)]⟩,
  ⟨some 106, some (102, true), none, false, .bin .gtr 3 false (.t 103) (.t 105)⟩,
  ⟨some 107, none, none, false, .pick (.t 102) (.t 106) (.v (.bool false))⟩]) (.cond (.t 107) (.seq (.ops [⟨some 108, none, none, false, .mov (.t 0)⟩,
  ⟨some 109, none, none, false, .mov (.t 8)⟩,
  ⟨some 110, none, none, false, .sls (.t 108) (some (.t 109)) none⟩,
  ⟨some 111, none, none, false, .mov (.t 1)⟩,
  ⟨some 112, none, none, false, .call 250 [(.t 110), (.t 111)]⟩,
  ⟨some 12, none, none, false, .mov (.t 112)⟩]) (.seq (.seq (.ops [⟨some 113, none, none, false, .mov (.t 12)⟩,
  ⟨some 114, none, none, false, .bin .geq 3 true (.t 113) (.v (.int .i64 0))⟩]) (.cond (.t 114) (.seq (.ops [⟨some 115, none, none, false, .mov (.t 12)⟩,
  ⟨some 116, none, none, false, .mov (.t 8)⟩,
  ⟨some 117, none, none, false, .bin .add 3 false (.t 115) (.t 116)⟩,
  ⟨some 4, none, none, false, .mov (.t 117)⟩]) .ret) .skip)) (.seq (.ops [⟨some 4, none, none, false, .mov (.v (.int .i64 (-1)))⟩]) .ret))) (.seq (.ops [⟨some 118, none, none, false, .mov (.t 5)⟩,
  ⟨some 119, none, none, false, .ld1 (.v (.ptr 0 0))⟩,
  ⟨some 120, none, none, false, .bin .gtr 3 false (.t 118) (.t 119)⟩,
  ⟨some 121, none, none, false, .mov (.t 120)⟩,
  ⟨some 122, some (121, true), none, false, .mov (.t 10)⟩,
  ⟨some 123, some (121, true), none, false, .mov (.t 8)⟩,
  ⟨some 124, some (121, true), none, false, .bin .shr 3 true (.t 123) (.v (.int .u64 4))⟩,
  ⟨some 125, some (121, true), none, false, .bin .add 3 true (.v (.int .i64 4)) (.t 124)⟩,
  ⟨some 126, some (121, true), none, false, .bin .geq 3 false (.t 122) (.t 125)⟩,
  ⟨some 127, none, none, false, .pick (.t 121) (.t 126) (.v (.bool false))⟩,
  ⟨some 128, none, none, false, .mov (.t 127)⟩,
  ⟨some 129, some (128, true), none, false, .mov (.t 8)⟩,
  ⟨some 130, some (128, true), none, false, .mov (.t 9)⟩,
  ⟨some 131, some (128, true), none, false, .bin .lss 3 false (.t 129) (.t 130)⟩,
  ⟨some 132, none, none, false, .pick (.t 128) (.t 131) (.v (.bool false))⟩]) (.cond (.t 132) (.seq (.ops [⟨some 133, none, none, false, .mov (.t 0)⟩,
  ⟨some 134, none, none, false, .mov (.t 8)⟩,
  ⟨some 135, none, none, false, .sls (.t 133) (some (.t 134)) none⟩,
  ⟨some 136, none, none, false, .mov (.t 1)⟩,
  ⟨some 137, none, none, false, .call 252 [(.t 135), (.t 136)]⟩,
  ⟨some 13, none, none, false, .mov (.t 137)⟩]) (.seq (.seq (.ops [⟨some 138, none, none, false, .mov (.t 13)⟩,
  ⟨some 139, none, none, false, .bin .lss 3 true (.t 138) (.v (.int .i64 0))⟩]) (.cond (.t 139) (.seq (.ops [⟨some 4, none, none, false, .mov (.v (.int .i64 (-1)))⟩]) .ret) .skip)) (.seq (.ops [⟨some 140, none, none, false, .mov (.t 8)⟩,
  ⟨some 141, none, none, false, .mov (.t 13)⟩,
  ⟨some 142, none, none, false, .bin .add 3 false (.t 140) (.t 141)⟩,
  ⟨some 4, none, none, false, .mov (.t 142)⟩]) .ret))) .skip))))))))))
/-- internal/stringslite.Index; results .tmp 4 -/
def r220 : RC := (.seq (.ops [⟨some 4, none, none, false, .mov (.v (.int .i64 0))⟩]) (.seq (.ops [⟨some 14, none, none, false, .mov (.t 1)⟩,
  ⟨some 15, none, none, false, .lenS (.t 14)⟩,
  ⟨some 5, none, none, false, .mov (.t 15)⟩]) (.seq (.block 0 (.seq (.ops [⟨some 17, none, none, false, .mov (.t 5)⟩,
  ⟨some 18, none, none, false, .bin .eql 3 true (.t 17) (.v (.int .i64 0))⟩,
  ⟨some 19, none, none, false, .mov (.t 18)⟩,
  ⟨some 20, some (19, false), none, false, .mov (.t 1)⟩,
  ⟨some 21, some (19, false), none, false, .mov (.t 0)⟩,
  ⟨some 22, some (19, false), none, false, .bin .eql 9 false (.t 20) (.t 21)⟩,
  ⟨some 23, none, none, false, .pick (.t 19) (.v (.bool true)) (.t 22)⟩,
  ⟨some 16, none, none, false, .mov (.t 23)⟩]) (.cond (.t 16) (.seq (.ops [⟨some 4, none, none, false, .mov (.v (.int .i64 0))⟩]) .ret) (.seq (.ops [⟨some 25, none, none, false, .mov (.t 5)⟩,
  ⟨some 26, none, none, false, .bin .eql 3 true (.t 25) (.v (.int .i64 1))⟩,
  ⟨some 24, none, none, false, .mov (.t 26)⟩]) (.cond (.t 24) (.seq (.ops [⟨some 27, none, none, false, .mov (.t 0)⟩,
  ⟨some 28, none, none, false, .mov (.t 1)⟩,
  ⟨some 29, none, none, false, .ixs (.t 28) (.v (.int .i64 0))⟩,
  ⟨some 30, none, none, false, .call 249 [(.t 27), (.t 29)]⟩,
  ⟨some 4, none, none, false, .mov (.t 30)⟩]) .ret) (.seq (.ops [⟨some 32, none, none, false, .mov (.t 5)⟩,
  ⟨some 33, none, none, false, .mov (.t 0)⟩,
  ⟨some 34, none, none, false, .lenS (.t 33)⟩,
  ⟨some 35, none, none, false, .bin .geq 3 false (.t 32) (.t 34)⟩,
  ⟨some 31, none, none, false, .mov (.t 35)⟩]) (.cond (.t 31) (.seq (.ops [⟨some 4, none, none, false, .mov (.v (.int .i64 (-1)))⟩]) .ret) (.seq (.ops [⟨some 37, none, none, false, .mov (.t 5)⟩,
  ⟨some 38, none, none, false, .ld1 (.v (.ptr 0 0))⟩,
  ⟨some 39, none, none, false, .bin .leq 3 false (.t 37) (.t 38)⟩,
  ⟨some 40, none, none, false, .mov (.t 39)⟩,
  ⟨some 41, some (40, true), none, false, .mov (.t 0)⟩,
  ⟨some 42, some (40, true), none, false, .lenS (.t 41)⟩,
  ⟨some 43, some (40, true), none, false, .bin .leq 3 true (.t 42) (.v (.int .i64 64))⟩,
  ⟨some 44, none, none, false, .pick (.t 40) (.t 43) (.v (.bool false))⟩,
  ⟨some 36, none, none, false, .mov (.t 44)⟩]) (.cond (.t 36) (.seq (.ops [⟨some 45, none, none, false, .mov (.t 0)⟩,
  ⟨some 46, none, none, false, .mov (.t 1)⟩,
  ⟨some 47, none, none, false, .call 250 [(.t 45), (.t 46)]⟩,
  ⟨some 4, none, none, false, .mov (.t 47)⟩]) .ret) .skip))))))))) (.seq (.ops [⟨some 48, none, none, false, .mov (.t 1)⟩,
  ⟨some 49, none, none, false, .ixs (.t 48) (.v (.int .i64 0))⟩,
  ⟨some 6, none, none, false, .mov (.t 49)⟩]) (.seq (.ops [⟨some 50, none, none, false, .mov (.t 1)⟩,
  ⟨some 51, none, none, false, .ixs (.t 50) (.v (.int .i64 1))⟩,
  ⟨some 7, none, none, false, .mov (.t 51)⟩]) (.seq (.ops [⟨some 8, none, none, false, .mov (.v (.int .i64 0))⟩]) (.seq (.ops [⟨some 52, none, none, false, .mov (.t 0)⟩,
  ⟨some 53, none, none, false, .lenS (.t 52)⟩,
  ⟨some 54, none, none, false, .mov (.t 5)⟩,
  ⟨some 55, none, none, false, .bin .sub 3 false (.t 53) (.t 54)⟩,
  ⟨some 56, none, none, false, .bin .add 3 true (.t 55) (.v (.int .i64 1))⟩,
  ⟨some 9, none, none, false, .mov (.t 56)⟩]) (.seq (.ops [⟨some 10, none, none, false, .mov (.v (.int .i64 0))⟩]) (.seq (.block 1 (.loop r220_l0)) (.seq (.ops [⟨some 4, none, none, false, .mov (.v (.int .i64 (-1)))⟩]) .ret))))))))))
theorem k220 : fnRC 220 = some ([.tmp 4], r220) := by kernel_rfl

/-- strings.Index; results .tmp 4 -/
def r181 : RC := (.seq (.ops [⟨some 4, none, none, false, .mov (.v (.int .i64 0))⟩]) (.seq (.ops [⟨some 5, none, none, false, .mov (.t 0)⟩,
  ⟨some 6, none, none, false, .mov (.t 1)⟩,
  ⟨some 7, none, none, false, .call 220 [(.t 5), (.t 6)]⟩,
  ⟨some 4, none, none, false, .mov (.t 7)⟩]) .ret))
theorem k181 : fnRC 181 = some ([.tmp 4], r181) := by kernel_rfl


end Go.Am

set_option linter.all false
namespace Go.Am
open Go
variable [MaxLen]
set_option maxRecDepth 100000
set_option maxHeartbeats 8000000

/-! # strings.Contains at the tokens; the builder's string -/

theorem cal_272 (args : List AV) (s : St) : cal U 272 args s = extIndexByte args s := by
  unfold cal callF; rw [U_ext]; rfl
theorem cal_250 (args : List AV) (s : St) : cal U 250 args s = extIndexStr args s := by
  unfold cal callF; rw [U_ext]; rfl
theorem c272 (l : Str) (c : UInt8) : calV U 272 [.str l, .int .u8 c.toNat] = some (.int .i64 (Lib.indexByte l c)) := by
  refine calV_of fun s => ?_
  rw [cal_272]
  simp only [extIndexByte, Int.toNat_natCast]
  rw [show (c.toNat).toUInt8 = c from UInt8.ofNat_toNat]
theorem c250 (l m : Str) (c : UInt8) (h1 : l.contains c = false) (h2 : l.length ≤ 64) (h3 : 1 ≤ m.length) (h4 : ((m.length + 1 : Nat) : Int) ≤ MaxLen.val) : calV U 250 [.str l, .str (c :: m)] = some (.int .i64 (-1)) := by
  refine calV_of fun s => ?_
  rw [cal_250]
  simp only [extIndexStr, h1, h2, h3, h4, decide_true, Bool.not_false, Bool.and_self, if_true]
theorem c249 (l : Str) (c : UInt8) : calV U 249 [.str l, .int .u8 c.toNat] = some (.int .i64 (Lib.indexByte l c)) := by
  refine pure_go k249 (by kernel_rfl) rfl ?_
  simp +contextual only [go_sem, ↓reduceIte, r249, c272]
theorem gb_0 : U.gbase 0 = some (.cells [.int .i64 MaxLen.val] 3 true 0 0) := by rw [U_gbase]; rfl
def fourS : Str := [41, 44, 59, 40]
theorem four_not {c : UInt8} (h : (c == 40 || c == 41 || c == 44 || c == 59) = false) : (41 == c) = false ∧ (44 == c) = false ∧ (59 == c) = false ∧ (40 == c) = false := by
  simp only [Bool.or_eq_false_iff, beq_eq_false_iff_ne] at h ⊢
  obtain ⟨⟨⟨h1, h2⟩, h3⟩, h4⟩ := h
  exact ⟨fun e => h2 e.symm, fun e => h3 e.symm, fun e => h4 e.symm, fun e => h1 e.symm⟩
theorem ib_four {c : UInt8} (h : (c == 40 || c == 41 || c == 44 || c == 59) = false) : Lib.indexByte fourS c = -1 ∧ ∀ n, Lib.indexByte ((fourS.drop 1).take n) c = -1 := by
  obtain ⟨h1, h2, h3, h4⟩ := four_not h
  have e2 : (44 == c) = false := h2
  refine ⟨by simp [fourS, Lib.indexByte, h1, h2, h3, h4], fun n => ?_⟩
  match n with
  | 0 => rfl
  | 1 => simp [fourS, Lib.indexByte, h2]
  | 2 => simp [fourS, Lib.indexByte, h2, h3]
  | n + 3 => simp [fourS, Lib.indexByte, h2, h3, h4]
theorem c220_1 (c : UInt8) : calV U 220 [.str fourS, .str [c]] = some (.int .i64 (Lib.indexByte fourS c)) := by
  refine pure_go k220 (by kernel_rfl) rfl ?_
  have h249 := c249 fourS c
  have e1 : (((0 + 1 : Nat) : Int) == 0) = false := rfl
  have e2 : (((0 + 1 : Nat) : Int) == 1) = true := rfl
  have e3 : (([c] : Str) == fourS) = false := by rw [beq_eq_false_iff_ne]; simp [fourS]
  simp (config := { maxSteps := 1000000 }) +contextual only [go_sem, ↓reduceIte, r220, h249, e1, e2, e3, br_tt, Bool.or_false]
theorem fourS_len : fourS.length = 4 := rfl
theorem fourS_0 : fourS[0]? = some 41 := rfl
theorem gb_some {c : UInt8} (h : (c == 40 || c == 41 || c == 44 || c == 59) = false) : fourS.contains c = false := by
  obtain ⟨h1, h2, h3, h4⟩ := four_not h
  have e : ∀ d : UInt8, (d == c) = false → (c == d) = false := fun d hd => by rw [beq_eq_false_iff_ne] at hd ⊢; exact fun e => hd e.symm
  have e41 := e 41 h1
  have e44 := e 44 h2
  have e59 := e 59 h3
  have e40 := e 40 h4
  rw [fourS]
  simp only [List.contains_cons, e41, e44, e59, e40, List.contains_nil, Bool.or_self]
theorem c220_4 (c : UInt8) (m : Str) (hm : 3 ≤ m.length) (h : (c == 40 || c == 41 || c == 44 || c == 59) = false) : calV U 220 [.str fourS, .str (c :: m)] = some (.int .i64 (-1)) := by
  refine pure_go k220 (by kernel_rfl) rfl ?_
  have e1 : (((m.length + 1 : Nat) : Int) == 0) = false := by rw [beq_eq_false_iff_ne]; omega
  have e2 : (((m.length + 1 : Nat) : Int) == 1) = false := by rw [beq_eq_false_iff_ne]; omega
  have e3 : (c :: m == fourS) = false := by
    rw [beq_eq_false_iff_ne]
    intro e
    obtain ⟨h1, _⟩ := four_not h
    rw [fourS] at e
    rw [(List.cons.inj e).1] at h1
    cases h1
  have e4 : decide (((m.length + 1 : Nat) : Int) ≥ ((4 : Nat) : Int)) = true := by rw [decide_eq_true_eq]; omega
  simp (config := { maxSteps := 1000000 }) +contextual only [go_sem, ↓reduceIte, r220, fourS_len, e1, e2, e3, e4, br_tt, Bool.or_false]
theorem c220_2 (c d : UInt8) (h : (c == 40 || c == 41 || c == 44 || c == 59) = false) : calV U 220 [.str fourS, .str [c, d]] = some (.int .i64 (-1)) := by
  refine pure_go k220 (by kernel_rfl) rfl ?_
  have e1 : (((0 + 1 + 1 : Nat) : Int) == 0) = false := rfl
  have e2 : (((0 + 1 + 1 : Nat) : Int) == 1) = false := rfl
  have e3 : (([c, d] : Str) == fourS) = false := by rw [beq_eq_false_iff_ne]; simp [fourS]
  have e4 : decide (((0 + 1 + 1 : Nat) : Int) ≥ ((4 : Nat) : Int)) = false := rfl
  have e41 : (((41 : UInt8).toNat : Int) != (c.toNat : Int)) = true := by
    have := (four_not h).1
    rw [bne_iff_ne]
    intro hh
    rw [beq_eq_false_iff_ne] at this
    exact this (UInt8.toNat_inj.1 (by omega))
  by_cases hm : ((2 : Nat) : Int) ≤ MaxLen.val
  · have e5 : decide (((0 + 1 + 1 : Nat) : Int) ≤ MaxLen.val) = true := by rw [decide_eq_true_eq]; exact hm
    have e6 : decide (((4 : Nat) : Int) ≤ 64) = true := rfl
    have h250 := c250 fourS [d] c (gb_some h) (by rw [fourS_len]; omega) (by simp) hm
    simp (config := { maxSteps := 1000000 }) +contextual only [go_sem, ↓reduceIte, r220, fourS_len, e1, e2, e3, e4, gb_0, e5, e6, h250, br_tt, Bool.or_false]
  · have e5 : decide (((0 + 1 + 1 : Nat) : Int) ≤ MaxLen.val) = false := by rw [decide_eq_false_iff_not]; exact hm
    have w1 : IntKind.i64.wrap (IntKind.i64.wrap (((4 : Nat) : Int) - ((2 : Nat) : Int)) + 1) = 3 := rfl
    have w2 : IntKind.i64.wrap 1 = 1 := rfl
    have h249 := c249 ((fourS.take 3).drop 1) c
    have hib : Lib.indexByte ((fourS.take 3).drop 1) c = -1 := (ib_four h).2 2
    rw [hib] at h249
    have hsl : slRS (.str fourS) (some (.int .i64 1)) (some (.int .i64 3)) = some (.str ((fourS.take 3).drop 1)) := rfl
    simp (config := { maxSteps := 1000000 }) +contextual only [go_sem, ↓reduceIte, r220, fourS_len, e1, e2, e3, e4, gb_0, e5, br_tt, Bool.or_false]
    rw [goL_eq]
    simp (config := { maxSteps := 1000000 }) +contextual only [go_sem, ↓reduceIte, r220_l0, fourS_len, fourS_0, br_tt, Bool.or_false, w1, w2, e41, hsl, h249]
theorem c220_3 (c d e : UInt8) (h : (c == 40 || c == 41 || c == 44 || c == 59) = false) : calV U 220 [.str fourS, .str [c, d, e]] = some (.int .i64 (-1)) := by
  refine pure_go k220 (by kernel_rfl) rfl ?_
  have e1 : (((0 + 1 + 1 + 1 : Nat) : Int) == 0) = false := rfl
  have e2 : (((0 + 1 + 1 + 1 : Nat) : Int) == 1) = false := rfl
  have e3 : (([c, d, e] : Str) == fourS) = false := by rw [beq_eq_false_iff_ne]; simp [fourS]
  have e4 : decide (((0 + 1 + 1 + 1 : Nat) : Int) ≥ ((4 : Nat) : Int)) = false := rfl
  have e41 : (((41 : UInt8).toNat : Int) != (c.toNat : Int)) = true := by
    have := (four_not h).1
    rw [bne_iff_ne]
    intro hh
    rw [beq_eq_false_iff_ne] at this
    exact this (UInt8.toNat_inj.1 (by omega))
  by_cases hm : ((3 : Nat) : Int) ≤ MaxLen.val
  · have e5 : decide (((0 + 1 + 1 + 1 : Nat) : Int) ≤ MaxLen.val) = true := by rw [decide_eq_true_eq]; exact hm
    have e6 : decide (((4 : Nat) : Int) ≤ 64) = true := rfl
    have h250 := c250 fourS [d, e] c (gb_some h) (by rw [fourS_len]; omega) (by simp) hm
    simp (config := { maxSteps := 1000000 }) +contextual only [go_sem, ↓reduceIte, r220, fourS_len, e1, e2, e3, e4, gb_0, e5, e6, h250, br_tt, Bool.or_false]
  · have e5 : decide (((0 + 1 + 1 + 1 : Nat) : Int) ≤ MaxLen.val) = false := by rw [decide_eq_false_iff_not]; exact hm
    have w1 : IntKind.i64.wrap (IntKind.i64.wrap (((4 : Nat) : Int) - ((3 : Nat) : Int)) + 1) = 2 := rfl
    have w2 : IntKind.i64.wrap 1 = 1 := rfl
    have h249 := c249 ((fourS.take 2).drop 1) c
    have hib : Lib.indexByte ((fourS.take 2).drop 1) c = -1 := (ib_four h).2 1
    rw [hib] at h249
    have hsl : slRS (.str fourS) (some (.int .i64 1)) (some (.int .i64 2)) = some (.str ((fourS.take 2).drop 1)) := rfl
    simp (config := { maxSteps := 1000000 }) +contextual only [go_sem, ↓reduceIte, r220, fourS_len, e1, e2, e3, e4, gb_0, e5, br_tt, Bool.or_false]
    rw [goL_eq]
    simp (config := { maxSteps := 1000000 }) +contextual only [go_sem, ↓reduceIte, r220_l0, fourS_len, fourS_0, br_tt, Bool.or_false, w1, w2, e41, hsl, h249]

theorem tokOk_cons {c : UInt8} {m : Str} (h : tokOk (c :: m) = true) : (c == 40 || c == 41 || c == 44 || c == 59) = false := by
  simpa [tokOk] using h
theorem c220_ok (t : Str) (h : tokOk t = true) : calV U 220 [.str fourS, .str t] = some (.int .i64 (-1)) := by
  match t, h with
  | [c], h =>
    have := c220_1 c
    rw [(ib_four (tokOk_cons h)).1] at this
    exact this
  | [c, d], h => exact c220_2 c d (tokOk_cons h)
  | [c, d, e], h => exact c220_3 c d e (tokOk_cons h)
  | c :: d :: e :: f :: m, h => exact c220_4 c _ (by simp) (tokOk_cons h)
theorem c129 (t : Str) (h : tokAny t = true) : calV U 129 [.str [41, 44, 59, 40], .str t] = some (.bool (cont t)) := by
  have key : ∀ (t : Str) (n : Int) (b : Bool), calV U 220 [.str fourS, .str t] = some (.int .i64 n) → decide (n ≥ 0) = b → calV U 129 [.str [41, 44, 59, 40], .str t] = some (.bool b) := fun t n b h1 h2 => by
    have h3 : calV U 181 [.str [41, 44, 59, 40], .str t] = some (.int .i64 n) := by
      refine pure_go k181 (by kernel_rfl) rfl ?_
      rw [fourS] at h1
      simp +contextual only [go_sem, ↓reduceIte, r181, h1]
    refine pure_go k129 (by kernel_rfl) rfl ?_
    simp +contextual only [go_sem, ↓reduceIte, r129, h3, h2]
  rw [tokAny, Bool.or_eq_true] at h
  rcases h with h | h
  · rw [(tokOk_cont h).1]
    exact key t _ _ (c220_ok t h) rfl
  · simp only [Bool.or_eq_true, beq_iff_eq] at h
    rcases h with rfl | rfl | rfl | rfl
    · exact key _ _ _ (c220_1 41) rfl
    · exact key _ _ _ (c220_1 44) rfl
    · exact key _ _ _ (c220_1 59) rfl
    · exact key _ _ _ (c220_1 40) rfl

/-! the builder's string -/
def sdK (v : Option AV) (s : St) : Option (AV × St) := match v with
  | some .nils => some (.nilp, s)
  | some (.sl b o (_ + 1) _ _) => some (.ptr b o, s)
  | _ => none
theorem opA_sd (ex : Ex) (e : Env) (s : St) (x : Operand) (ts : Array TypeId) : opA U ex e (.call { callee := .builtin .unsafeSliceData, args := #[x], argTypes := ts }) s = sdK (eval U e x) s := by
  have h : opA U ex e (.call { callee := .builtin .unsafeSliceData, args := #[x], argTypes := ts }) s = match evals U e [x] with
    | some vs => builtinA U .unsafeSliceData ts vs s
    | none => none := rfl
  rw [h]
  simp only [evals]
  cases eval U e x with
  | none => rfl
  | some v =>
    cases v <;> try rfl
    rename_i b o n c z
    cases n <;> rfl
noncomputable def usK (ts : Array TypeId) (p n : Option AV) (s : St) : Option (AV × St) := match p, n with
  | some p, some n => builtinA U .unsafeString ts [p, n] s
  | _, _ => none
theorem opA_us (ex : Ex) (e : Env) (s : St) (x y : Operand) (ts : Array TypeId) : opA U ex e (.call { callee := .builtin .unsafeString, args := #[x, y], argTypes := ts }) s = usK ts (eval U e x) (eval U e y) s := by
  have h : opA U ex e (.call { callee := .builtin .unsafeString, args := #[x, y], argTypes := ts }) s = match evals U e [x, y] with
    | some vs => builtinA U .unsafeString ts vs s
    | none => none := rfl
  rw [h]
  simp only [evals]
  cases eval U e x with
  | none => rfl
  | some v => cases eval U e y <;> rfl
theorem sdK_nils (s : St) : sdK (some .nils) s = some (.nilp, s) := rfl
theorem sdK_sl (b o n : Nat) (c : Option Nat) (z : Nat) (s : St) : sdK (some (.sl b o (n + 1) c z)) s = some (.ptr b o, s) := rfl
theorem usK_some (ts : Array TypeId) (p n : AV) (s : St) : usK ts (some p) (some n) s = builtinA U .unsafeString ts [p, n] s := rfl
theorem us_nil (s : St) : builtinA U .unsafeString #[269, 3] [.nilp, .int .i64 0] s = some (.str [], s) := rfl
theorem us_ptr {s : St} {j : Nat} {bs : Str} {lo hi : Nat} (hg : s.get j = some (.cells (bytesA bs) 5 false lo hi)) (h0 : bs ≠ []) (hl : bs.length ≤ 2 ^ 39) : builtinA U .unsafeString #[269, 3] [.ptr j 0, .int .i64 bs.length] s = some (.str bs, s.put j (.cells (bytesA bs) 5 true 0 0)) := by
  have hu : U.und 269 = some (.pointer 5) := by kernel_rfl
  have hne : ¬ (bs.length : Int) = 0 := by
    have := List.length_pos_iff.2 h0; omega
  have hb : ¬ ((bs.length : Int) < 0 ∨ (bs.length : Int) > 2 ^ 40) := by omega
  unfold builtinA
  simp only [if_neg hne, if_neg hb, hg]
  have hgr : grab bs.length 0 (bytesA bs) = some (bytesA bs) := by
    have := grab_all (bytesA bs)
    rwa [bytesA_len] at this
  simp [hu, sz_5, hgr, bytesA_load]
attribute [go_sem ↓] opA_sd opA_us
attribute [go_sem] sdK_nils sdK_sl usK_some us_nil
theorem c133 (s : St) (b : Nat) (bs : Str) (h : BldI s b bs) (hl : bs.length ≤ 2 ^ 39) : ∃ s', cal U 133 [.ptr b 0] s = some (.str bs, s') := by
  obtain ⟨p, v, hg, hp, hb, hv⟩ := h
  rcases hv with ⟨h0, rfl, h2⟩ | ⟨h0, h1, j, h2, h3, rfl, h5⟩
  · have : bs = [] := List.length_eq_zero_iff.1 h0
    subst this
    refine ⟨s.upto (s.next + 12), kept_go k133 (by kernel_rfl) ?_⟩
    simp +contextual only [go_sem, ↓reduceIte, r133, hg]
  · have hne : bs ≠ [] := by rintro rfl; simp at h0
    have hus := us_ptr (s := s.upto (s.next + 12)) (bs := bs) (j := j) (by rw [upto_get]; exact h5) hne hl
    obtain ⟨n, hn⟩ : ∃ n, bs.length = n + 1 := ⟨bs.length - 1, by omega⟩
    refine ⟨(s.upto (s.next + 12)).put j (.cells (bytesA bs) 5 true 0 0), kept_go k133 (by kernel_rfl) ?_⟩
    rw [hn] at hg hus
    simp +contextual only [go_sem, ↓reduceIte, r133, hg, hus]
end Go.Am
