/- A part of the proof of a statement of this seat: the machine on which the program is read, and what it computes; for every input. -/
import Derived.Test.YtgbhangfciiepaaGreatDoorC05
set_option linter.all false
set_option linter.all false
namespace Go.Am
open Go
variable [MaxLen]
set_option maxRecDepth 100000
set_option maxHeartbeats 8000000
/-! # TopClipLines: resolved code (printed) -/
noncomputable def r4_l0 : RC := (.seq (.seq (.ops [⟨some 14, none, none, false, .mov (.t 5)⟩,
  ⟨some 15, none, none, false, .mov (.t 0)⟩,
  ⟨some 16, none, none, false, .lenL (.t 15)⟩,
  ⟨some 17, none, none, false, .bin .lss 3 false (.t 14) (.t 16)⟩]) (.cond (.t 17) .skip (.exit 0))) (.seq (.block 1 (.seq (.ops [⟨some 20, none, none, false, .mov (.t 0)⟩,
  ⟨some 21, none, none, false, .mov (.t 5)⟩,
  ⟨some 22, none, none, false, .ixa 1 (.t 20) (.t 21)⟩,
  ⟨some 23, none, none, false, .ld1 (.t 22)⟩,
  ⟨some 24, none, none, false, .call 17 [(.t 23)]⟩,
  ⟨some 6, none, none, false, .mov (.t 24)⟩]) (.seq (.ops [⟨some 25, none, none, false, .mov (.t 6)⟩,
  ⟨some 26, none, none, false, .bin .neq 3 true (.t 25) (.v (.int .i64 0))⟩]) (.cond (.t 26) (.seq (.ops [⟨some 27, none, none, false, .mov (.t 6)⟩,
  ⟨some 4, none, none, false, .mov (.t 27)⟩]) .ret) .skip)))) (.ops [⟨some 18, none, none, false, .mov (.t 5)⟩,
  ⟨some 19, none, none, false, .bin .add 3 true (.t 18) (.v (.int .i64 1))⟩,
  ⟨some 5, none, none, false, .mov (.t 19)⟩])))
noncomputable def r4_l1 : RC := (.seq (.seq (.ops [⟨some 33, none, none, false, .mov (.t 7)⟩,
  ⟨some 34, none, none, false, .mov (.t 1)⟩,
  ⟨some 35, none, none, false, .lenL (.t 34)⟩,
  ⟨some 36, none, none, false, .bin .lss 3 false (.t 33) (.t 35)⟩]) (.cond (.t 36) .skip (.exit 2))) (.seq (.block 3 (.seq (.ops [⟨some 39, none, none, false, .mov (.t 1)⟩,
  ⟨some 40, none, none, false, .mov (.t 7)⟩,
  ⟨some 41, none, none, false, .ixa 1 (.t 39) (.t 40)⟩,
  ⟨some 42, none, none, false, .ld1 (.t 41)⟩,
  ⟨some 43, none, none, false, .bin .lss 3 true (.t 42) (.v (.int .i64 (-1000)))⟩,
  ⟨some 44, none, none, false, .mov (.t 43)⟩,
  ⟨some 45, some (44, false), none, false, .mov (.t 1)⟩,
  ⟨some 46, some (44, false), none, false, .mov (.t 7)⟩,
  ⟨some 47, some (44, false), none, false, .ixa 1 (.t 45) (.t 46)⟩,
  ⟨some 48, some (44, false), none, false, .ld1 (.t 47)⟩,
  ⟨some 49, some (44, false), none, false, .bin .gtr 3 true (.t 48) (.v (.int .i64 1000))⟩,
  ⟨some 50, none, none, false, .pick (.t 44) (.v (.bool true)) (.t 49)⟩]) (.cond (.t 50) (.seq (.ops [⟨some 4, none, none, false, .mov (.v (.int .i64 3))⟩]) .ret) .skip))) (.ops [⟨some 37, none, none, false, .mov (.t 7)⟩,
  ⟨some 38, none, none, false, .bin .add 3 true (.t 37) (.v (.int .i64 1))⟩,
  ⟨some 7, none, none, false, .mov (.t 38)⟩])))
/-- strobe/stroberef02.CheckRecords; results .tmp 4 -/
noncomputable def r4 : RC := (.seq (.ops [⟨some 4, none, none, false, .mov (.v (.int .i64 0))⟩]) (.seq (.seq (.ops [⟨some 8, none, none, false, .mov (.t 0)⟩,
  ⟨some 9, none, none, false, .lenL (.t 8)⟩,
  ⟨some 10, none, none, false, .bin .eql 3 true (.t 9) (.v (.int .i64 0))⟩]) (.cond (.t 10) (.seq (.ops [⟨some 4, none, none, false, .mov (.v (.int .i64 12))⟩]) .ret) .skip)) (.seq (.seq (.ops [⟨some 11, none, none, false, .mov (.t 0)⟩,
  ⟨some 12, none, none, false, .lenL (.t 11)⟩,
  ⟨some 13, none, none, false, .bin .gtr 3 true (.t 12) (.v (.int .i64 8))⟩]) (.cond (.t 13) (.seq (.ops [⟨some 4, none, none, false, .mov (.v (.int .i64 5))⟩]) .ret) .skip)) (.seq (.seq (.ops [⟨some 5, none, none, false, .mov (.v (.int .i64 0))⟩]) (.block 0 (.loop r4_l0))) (.seq (.seq (.ops [⟨some 28, none, none, false, .mov (.t 1)⟩,
  ⟨some 29, none, none, false, .lenL (.t 28)⟩,
  ⟨some 30, none, none, false, .mov (.t 0)⟩,
  ⟨some 31, none, none, false, .lenL (.t 30)⟩,
  ⟨some 32, none, none, false, .bin .neq 3 false (.t 29) (.t 31)⟩]) (.cond (.t 32) (.seq (.ops [⟨some 4, none, none, false, .mov (.v (.int .i64 2))⟩]) .ret) .skip)) (.seq (.seq (.ops [⟨some 7, none, none, false, .mov (.v (.int .i64 0))⟩]) (.block 2 (.loop r4_l1))) (.seq (.ops [⟨some 4, none, none, false, .mov (.v (.int .i64 0))⟩]) .ret)))))))
theorem k4 : fnRC 4 = some ([.tmp 4], r4) := by kernel_rfl

/-- strobe/stroberef02.CheckLevels; results .tmp 2 -/
noncomputable def r5 : RC := (.seq (.ops [⟨some 1, none, none, false, .box 26 (.t 0)⟩,
  ⟨some 2, none, none, false, .mov (.v (.int .i64 0))⟩]) (.seq (.seq (.ops [⟨some 3, none, none, false, .fa 0 (.t 1)⟩,
  ⟨some 4, none, none, false, .ld1 (.t 3)⟩,
  ⟨some 5, none, none, false, .call 18 [(.t 4)]⟩,
  ⟨some 6, none, none, false, .un .not (.t 5)⟩,
  ⟨some 7, none, none, false, .mov (.t 6)⟩,
  ⟨some 8, some (7, false), none, false, .fa 1 (.t 1)⟩,
  ⟨some 9, some (7, false), none, false, .ld1 (.t 8)⟩,
  ⟨some 10, some (7, false), none, false, .call 18 [(.t 9)]⟩,
  ⟨some 11, some (7, false), none, false, .un .not (.t 10)⟩,
  ⟨some 12, none, none, false, .pick (.t 7) (.v (.bool true)) (.t 11)⟩]) (.cond (.t 12) (.seq (.ops [⟨some 2, none, none, false, .mov (.v (.int .i64 1))⟩]) .ret) .skip)) (.seq (.seq (.ops [⟨some 13, none, none, false, .fa 0 (.t 1)⟩,
  ⟨some 14, none, none, false, .ld1 (.t 13)⟩,
  ⟨some 15, none, none, false, .fa 1 (.t 1)⟩,
  ⟨some 16, none, none, false, .ld1 (.t 15)⟩,
  ⟨some 17, none, none, false, .bin .geq 24 false (.t 14) (.t 16)⟩]) (.cond (.t 17) (.seq (.ops [⟨some 2, none, none, false, .mov (.v (.int .i64 11))⟩]) .ret) .skip)) (.seq (.ops [⟨some 2, none, none, false, .mov (.v (.int .i64 0))⟩]) .ret))))
theorem k5 : fnRC 5 = some ([.tmp 2], r5) := by kernel_rfl

noncomputable def r7_l0 : RC := (.seq (.ops [⟨some 36, none, none, false, .bin .lss 3 false (.t 35) (.t 34)⟩]) (.seq (.cond (.t 36) .skip (.exit 0)) (.seq (.block 1 (.seq (.ops [⟨some 37, none, none, false, .ixa 1 (.t 33) (.t 35)⟩,
  ⟨some 38, none, none, false, .ld1 (.t 37)⟩,
  ⟨some 8, none, none, false, .mov (.t 38)⟩]) (.seq (.ops [⟨some 39, none, none, false, .mov (.t 8)⟩,
  ⟨some 40, none, none, false, .call 24 [(.t 39)]⟩,
  ⟨some 9, none, none, false, .mov (.t 40)⟩]) (.seq (.ops [⟨some 41, none, none, false, .mov (.t 9)⟩,
  ⟨some 42, none, none, false, .bin .neq 31 true (.t 41) (.v (.int .i64 0))⟩]) (.cond (.t 42) (.seq (.ops [⟨some 43, none, none, false, .mov (.t 9)⟩,
  ⟨some 4, none, none, false, .mov (.v .nils)⟩,
  ⟨some 5, none, none, false, .mov (.t 43)⟩]) .ret) .skip))))) (.ops [⟨some 44, none, none, false, .bin .add 3 true (.t 35) (.v (.int .i64 1))⟩,
  ⟨some 35, none, none, false, .mov (.t 44)⟩]))))
noncomputable def r7_l1 : RC := (.seq (.ops [⟨some 53, none, none, false, .bin .lss 3 false (.t 52) (.t 51)⟩]) (.seq (.cond (.t 53) .skip (.exit 2)) (.seq (.block 3 (.seq (.ops [⟨some 54, none, none, false, .ixa 1 (.t 50) (.t 52)⟩,
  ⟨some 55, none, none, false, .ld1 (.t 54)⟩,
  ⟨some 11, none, none, false, .mov (.t 55)⟩]) (.seq (.ops [⟨some 56, none, none, false, .mov (.t 11)⟩,
  ⟨some 57, none, none, false, .call 25 [(.t 56), (.v (.int .i64 (-1000))), (.v (.int .i64 1000))]⟩,
  ⟨some 12, none, none, false, .mov (.t 57)⟩]) (.seq (.ops [⟨some 58, none, none, false, .mov (.t 12)⟩,
  ⟨some 59, none, none, false, .bin .neq 31 true (.t 58) (.v (.int .i64 0))⟩]) (.cond (.t 59) (.seq (.ops [⟨some 60, none, none, false, .mov (.t 12)⟩,
  ⟨some 4, none, none, false, .mov (.v .nils)⟩,
  ⟨some 5, none, none, false, .mov (.t 60)⟩]) .ret) .skip))))) (.ops [⟨some 61, none, none, false, .bin .add 3 true (.t 52) (.v (.int .i64 1))⟩,
  ⟨some 52, none, none, false, .mov (.t 61)⟩]))))
noncomputable def r7_l2 : RC := (.seq (.ops [⟨some 77, none, none, false, .bin .lss 3 false (.t 76) (.t 75)⟩]) (.seq (.cond (.t 77) .skip (.exit 4)) (.seq (.block 5 (.seq (.ops [⟨some 78, none, none, false, .mov (.t 76)⟩,
  ⟨some 79, none, none, false, .ixa 1 (.t 74) (.t 76)⟩,
  ⟨some 80, none, none, false, .ld1 (.t 79)⟩,
  ⟨some 15, none, none, false, .mov (.t 78)⟩,
  ⟨some 16, none, none, false, .mov (.t 80)⟩]) (.drw 15 [⟨some 81, none, none, false, .mov (.t 13)⟩,
  ⟨some 82, none, none, false, .mov (.t 16)⟩,
  ⟨some 83, none, none, false, .un .neg (.t 82)⟩,
  ⟨some 84, none, none, false, .raw (.call { callee := .builtin .max, args := #[(.tmp 81), (.tmp 83)], argTypes := #[3, 3] })⟩,
  ⟨some 85, none, none, false, .mov (.t 14)⟩,
  ⟨some 86, none, none, false, .mov (.t 0)⟩,
  ⟨some 87, none, none, false, .mov (.t 15)⟩,
  ⟨some 88, none, none, false, .ixa 1 (.t 86) (.t 87)⟩,
  ⟨some 89, none, none, false, .ld1 (.t 88)⟩,
  ⟨some 90, none, none, false, .lenL (.t 89)⟩,
  ⟨some 91, none, none, false, .mov (.t 16)⟩,
  ⟨some 92, none, none, false, .bin .sub 3 false (.t 90) (.t 91)⟩,
  ⟨some 93, none, none, false, .raw (.call { callee := .builtin .min, args := #[(.tmp 85), (.tmp 92)], argTypes := #[3, 3] })⟩,
  ⟨some 13, none, none, false, .mov (.t 84)⟩,
  ⟨some 14, none, none, false, .mov (.t 93)⟩]))) (.ops [⟨some 94, none, none, false, .bin .add 3 true (.t 76) (.v (.int .i64 1))⟩,
  ⟨some 76, none, none, false, .mov (.t 94)⟩]))))
noncomputable def r7_l3 : RC := (.seq (.ops [⟨some 101, none, none, false, .bin .lss 3 false (.t 100) (.t 99)⟩]) (.seq (.cond (.t 101) .skip (.exit 6)) (.seq (.block 7 (.seq (.ops [⟨some 102, none, none, false, .mov (.t 100)⟩,
  ⟨some 103, none, none, false, .ixa 1 (.t 98) (.t 100)⟩,
  ⟨some 104, none, none, false, .ld1 (.t 103)⟩,
  ⟨some 18, none, none, false, .mov (.t 102)⟩,
  ⟨some 19, none, none, false, .mov (.t 104)⟩]) (.ops [⟨some 105, none, none, false, .mov (.t 17)⟩,
  ⟨some 106, none, none, false, .mov (.t 0)⟩,
  ⟨some 107, none, none, false, .mov (.t 18)⟩,
  ⟨some 108, none, none, false, .ixa 1 (.t 106) (.t 107)⟩,
  ⟨some 109, none, none, false, .ld1 (.t 108)⟩,
  ⟨some 110, none, none, false, .mov (.t 13)⟩,
  ⟨some 111, none, none, false, .mov (.t 19)⟩,
  ⟨some 112, none, none, false, .bin .add 3 false (.t 110) (.t 111)⟩,
  ⟨some 113, none, none, false, .mov (.t 14)⟩,
  ⟨some 114, none, none, false, .mov (.t 19)⟩,
  ⟨some 115, none, none, false, .bin .add 3 false (.t 113) (.t 114)⟩,
  ⟨some 116, none, none, false, .sll 1 (.t 109) (some (.t 112)) (some (.t 115))⟩,
  ⟨some 117, none, none, false, .call 26 [(.t 116), (.v (.fn (.func 27) [] []))]⟩,
  ⟨some 118, none, none, false, .bsl 30 1 1 [.nils] [(0, 1, (.t 117))]⟩,
  ⟨some 119, none, none, false, .app 30 1 24 (.t 105) (.t 118)⟩,
  ⟨some 17, none, none, false, .mov (.t 119)⟩]))) (.ops [⟨some 120, none, none, false, .bin .add 3 true (.t 100) (.v (.int .i64 1))⟩,
  ⟨some 100, none, none, false, .mov (.t 120)⟩]))))
/-- strobe/probe.Aligned; results .tmp 4,.tmp 5 -/
noncomputable def r7 : RC := (.seq (.ops [⟨some 4, none, none, false, .mov (.v .nils)⟩,
  ⟨some 5, none, none, false, .mov (.v (.int .i64 0))⟩]) (.seq (.seq (.ops [⟨some 20, none, none, false, .mov (.t 0)⟩,
  ⟨some 21, none, none, false, .lenL (.t 20)⟩,
  ⟨some 22, none, none, false, .bin .eql 3 true (.t 21) (.v (.int .i64 0))⟩,
  ⟨some 23, none, none, false, .call 23 [(.t 22), (.v (.int .i64 12))]⟩,
  ⟨some 24, none, none, false, .mov (.t 0)⟩,
  ⟨some 25, none, none, false, .lenL (.t 24)⟩,
  ⟨some 26, none, none, false, .bin .gtr 3 true (.t 25) (.v (.int .i64 8))⟩,
  ⟨some 27, none, none, false, .call 23 [(.t 26), (.v (.int .i64 5))]⟩,
  ⟨some 28, none, none, false, .bsl 31 1 2 [(.int .i64 0), (.int .i64 0)] [(0, 1, (.t 23)), (1, 1, (.t 27))]⟩,
  ⟨some 29, none, none, false, .call 22 [(.t 28)]⟩,
  ⟨some 6, none, none, false, .mov (.t 29)⟩]) (.seq (.ops [⟨some 30, none, none, false, .mov (.t 6)⟩,
  ⟨some 31, none, none, false, .bin .neq 31 true (.t 30) (.v (.int .i64 0))⟩]) (.cond (.t 31) (.seq (.ops [⟨some 32, none, none, false, .mov (.t 6)⟩,
  ⟨some 4, none, none, false, .mov (.v .nils)⟩,
  ⟨some 5, none, none, false, .mov (.t 32)⟩]) .ret) .skip))) (.seq (.seq (.ops [⟨some 33, none, none, false, .mov (.t 0)⟩,
  ⟨some 34, none, none, false, .lenL (.t 33)⟩,
  ⟨some 35, none, none, false, .mov (.v (.int .i64 0))⟩]) (.block 0 (.loop r7_l0))) (.seq (.seq (.ops [⟨some 45, none, none, false, .mov (.t 1)⟩,
  ⟨some 46, none, none, false, .lenL (.t 45)⟩,
  ⟨some 47, none, none, false, .mov (.t 0)⟩,
  ⟨some 48, none, none, false, .lenL (.t 47)⟩,
  ⟨some 49, none, none, false, .bin .neq 3 false (.t 46) (.t 48)⟩]) (.cond (.t 49) (.seq (.ops [⟨some 4, none, none, false, .mov (.v .nils)⟩,
  ⟨some 5, none, none, false, .mov (.v (.int .i64 2))⟩]) .ret) .skip)) (.seq (.seq (.ops [⟨some 50, none, none, false, .mov (.t 1)⟩,
  ⟨some 51, none, none, false, .lenL (.t 50)⟩,
  ⟨some 52, none, none, false, .mov (.v (.int .i64 0))⟩]) (.block 2 (.loop r7_l1))) (.seq (.drw 14 [⟨some 62, none, none, false, .mov (.t 1)⟩,
  ⟨some 63, none, none, false, .ixa 1 (.t 62) (.v (.int .i64 0))⟩,
  ⟨some 64, none, none, false, .ld1 (.t 63)⟩,
  ⟨some 65, none, none, false, .un .neg (.t 64)⟩,
  ⟨some 66, none, none, false, .mov (.t 0)⟩,
  ⟨some 67, none, none, false, .ixa 1 (.t 66) (.v (.int .i64 0))⟩,
  ⟨some 68, none, none, false, .ld1 (.t 67)⟩,
  ⟨some 69, none, none, false, .lenL (.t 68)⟩,
  ⟨some 70, none, none, false, .mov (.t 1)⟩,
  ⟨some 71, none, none, false, .ixa 1 (.t 70) (.v (.int .i64 0))⟩,
  ⟨some 72, none, none, false, .ld1 (.t 71)⟩,
  ⟨some 73, none, none, false, .bin .sub 3 false (.t 69) (.t 72)⟩,
  ⟨some 13, none, none, false, .mov (.t 65)⟩,
  ⟨some 14, none, none, false, .mov (.t 73)⟩]) (.seq (.seq (.ops [⟨some 74, none, none, false, .mov (.t 1)⟩,
  ⟨some 75, none, none, false, .lenL (.t 74)⟩,
  ⟨some 76, none, none, false, .mov (.v (.int .i64 0))⟩]) (.block 4 (.loop r7_l2))) (.seq (.seq (.ops [⟨some 95, none, none, false, .mov (.t 13)⟩,
  ⟨some 96, none, none, false, .mov (.t 14)⟩,
  ⟨some 97, none, none, false, .bin .geq 3 false (.t 95) (.t 96)⟩]) (.cond (.t 97) (.seq (.ops [⟨some 4, none, none, false, .mov (.v .nils)⟩,
  ⟨some 5, none, none, false, .mov (.v (.int .i64 16))⟩]) .ret) .skip)) (.seq (.ops [⟨some 17, none, none, false, .mov (.v .nils)⟩]) (.seq (.seq (.ops [⟨some 98, none, none, false, .mov (.t 1)⟩,
  ⟨some 99, none, none, false, .lenL (.t 98)⟩,
  ⟨some 100, none, none, false, .mov (.v (.int .i64 0))⟩]) (.block 6 (.loop r7_l3))) (.seq (.ops [⟨some 121, none, none, false, .mov (.t 17)⟩,
  ⟨some 4, none, none, false, .mov (.t 121)⟩,
  ⟨some 5, none, none, false, .mov (.v (.int .i64 0))⟩]) .ret)))))))))))
theorem k7 : fnRC 7 = some ([.tmp 4, .tmp 5], r7) := by kernel_rfl

/-- strobe/probe.Digital; results .tmp 6,.tmp 7 -/
noncomputable def r8 : RC := (.seq (.ops [⟨some 4, none, none, false, .box 38 (.t 1)⟩,
  ⟨some 6, none, none, false, .mov (.v .nils)⟩,
  ⟨some 7, none, none, false, .mov (.v (.int .i64 0))⟩]) (.seq (.seq (.drw 7 [⟨some 9, none, none, false, .mov (.t 0)⟩,
  ⟨some 10, none, none, false, .call 24 [(.t 9)]⟩,
  ⟨some 11, none, none, false, .ldn 2 (.t 4)⟩,
  ⟨some 12, none, none, false, .call 28 [(.t 11)]⟩,
  ⟨some 13, none, some 4, false, .bsl 31 1 2 [(.int .i64 0), (.int .i64 0)] [(0, 1, (.t 10)), (1, 1, (.t 12))]⟩,
  ⟨some 14, none, none, false, .call 22 [(.t 13)]⟩,
  ⟨some 8, none, none, false, .mov (.t 14)⟩]) (.seq (.ops [⟨some 15, none, none, false, .mov (.t 8)⟩,
  ⟨some 16, none, none, false, .bin .neq 31 true (.t 15) (.v (.int .i64 0))⟩]) (.cond (.t 16) (.seq (.ops [⟨some 17, none, none, false, .mov (.t 8)⟩,
  ⟨some 6, none, none, false, .mov (.v .nils)⟩,
  ⟨some 7, none, none, false, .mov (.t 17)⟩]) .ret) .skip))) (.seq (.ops [⟨some 18, none, none, false, .mov (.t 0)⟩,
  ⟨some 19, none, none, false, .ldn 2 (.t 4)⟩,
  ⟨some 20, none, none, false, .mov (.t 2)⟩,
  ⟨some 21, none, none, false, .call 30 [(.t 19), (.t 20)]⟩,
  ⟨some 22, none, none, false, .call 29 [(.t 18), (.t 21)]⟩,
  ⟨some 6, none, none, false, .mov (.t 22)⟩,
  ⟨some 7, none, none, false, .mov (.v (.int .i64 0))⟩]) .ret)))
theorem k8 : fnRC 8 = some ([.tmp 6, .tmp 7], r8) := by kernel_rfl

noncomputable def q9_0 : Code := rawAt 9 0
theorem d9_0 : rcDrc U q9_0 = none := by kernel_rfl
/-- strobe/probe.Words; results .tmp 2,.tmp 3 -/
noncomputable def r9 : RC := (.seq (.ops [⟨some 1, none, none, false, .box 34 (.t 0)⟩,
  ⟨some 2, none, none, false, .mov (.v .nils)⟩,
  ⟨some 3, none, none, false, .mov (.v (.int .i64 0))⟩]) (.seq (.seq (.drw 11 [⟨some 9, none, none, false, .ld1 (.t 1)⟩,
  ⟨some 10, none, none, false, .lenL (.t 9)⟩,
  ⟨some 11, none, none, false, .bin .eql 3 true (.t 10) (.v (.int .i64 0))⟩,
  ⟨some 12, none, none, false, .call 23 [(.t 11), (.v (.int .i64 12))]⟩,
  ⟨some 13, none, none, false, .ld1 (.t 1)⟩,
  ⟨some 14, none, none, false, .lenL (.t 13)⟩,
  ⟨some 15, none, none, false, .bin .gtr 3 true (.t 14) (.v (.int .i64 16))⟩,
  ⟨some 16, none, none, false, .call 23 [(.t 15), (.v (.int .i64 5))]⟩,
  ⟨some 17, none, some 8, false, .bsl 31 1 2 [(.int .i64 0), (.int .i64 0)] [(0, 1, (.t 12)), (1, 1, (.t 16))]⟩,
  ⟨some 18, none, none, false, .call 22 [(.t 17)]⟩,
  ⟨some 4, none, none, false, .mov (.t 18)⟩]) (.seq (.ops [⟨some 19, none, none, false, .mov (.t 4)⟩,
  ⟨some 20, none, none, false, .bin .neq 31 true (.t 19) (.v (.int .i64 0))⟩]) (.cond (.t 20) (.seq (.ops [⟨some 21, none, none, false, .mov (.t 4)⟩,
  ⟨some 2, none, none, false, .mov (.v .nils)⟩,
  ⟨some 3, none, none, false, .mov (.t 21)⟩]) .ret) .skip))) (.seq (.ops [⟨some 22, none, none, false, .ld1 (.t 1)⟩,
  ⟨some 23, none, none, false, .mkf 32 [] [(.t 1)]⟩,
  ⟨some 24, none, none, false, .call 31 [(.t 22), (.t 23)]⟩,
  ⟨some 5, none, none, false, .mov (.t 24)⟩]) (.seq (.seq (.ops [⟨some 25, none, none, false, .ld1 (.t 1)⟩,
  ⟨some 26, none, none, false, .ixa 1 (.t 25) (.v (.int .i64 0))⟩,
  ⟨some 27, none, none, false, .ld1 (.t 26)⟩,
  ⟨some 28, none, none, false, .lenL (.t 27)⟩,
  ⟨some 29, none, none, false, .bin .gtr 3 true (.t 28) (.v (.int .i64 4096))⟩,
  ⟨some 30, none, none, false, .call 23 [(.t 29), (.v (.int .i64 5))]⟩,
  ⟨some 31, none, none, false, .mov (.t 5)⟩,
  ⟨some 32, none, none, false, .call 23 [(.t 31), (.v (.int .i64 2))]⟩,
  ⟨some 33, none, none, false, .bsl 31 1 2 [(.int .i64 0), (.int .i64 0)] [(0, 1, (.t 30)), (1, 1, (.t 32))]⟩,
  ⟨some 34, none, none, false, .call 22 [(.t 33)]⟩,
  ⟨some 6, none, none, false, .mov (.t 34)⟩]) (.seq (.ops [⟨some 35, none, none, false, .mov (.t 6)⟩,
  ⟨some 36, none, none, false, .bin .neq 31 true (.t 35) (.v (.int .i64 0))⟩]) (.cond (.t 36) (.seq (.ops [⟨some 37, none, none, false, .mov (.t 6)⟩,
  ⟨some 2, none, none, false, .mov (.v .nils)⟩,
  ⟨some 3, none, none, false, .mov (.t 37)⟩]) .ret) .skip))) (.seq (.ops [⟨some 7, none, none, false, .al [.nils] 39⟩]) (.seq (.seq (.ops [⟨some 38, none, none, false, .ld1 (.t 1)⟩,
  ⟨some 39, none, none, false, .call 33 [(.t 38)]⟩]) (.block 0 (.raw q9_0))) (.seq (.ops [⟨some 45, none, none, false, .ld1 (.t 7)⟩,
  ⟨some 2, none, none, false, .mov (.t 45)⟩,
  ⟨some 3, none, none, false, .mov (.v (.int .i64 0))⟩]) .ret)))))))
theorem k9 : fnRC 9 = some ([.tmp 2, .tmp 3], r9) := by kernel_rfl

noncomputable def r10_l0 : RC := (.seq (.ops [⟨some 25, none, none, false, .bin .lss 3 false (.t 24) (.t 23)⟩]) (.seq (.cond (.t 25) .skip (.exit 0)) (.seq (.block 1 (.seq (.ops [⟨some 26, none, none, false, .mov (.t 24)⟩,
  ⟨some 7, none, none, false, .mov (.t 26)⟩]) (.ops [⟨some 27, none, none, false, .mov (.t 6)⟩,
  ⟨some 28, none, none, false, .mov (.t 5)⟩,
  ⟨some 29, none, none, false, .mov (.t 7)⟩,
  ⟨some 30, none, none, false, .bin .mul 3 true (.t 29) (.v (.int .i64 16))⟩,
  ⟨some 31, none, none, false, .sll 1 (.t 28) (some (.t 30)) none⟩,
  ⟨some 32, none, none, false, .raw (.sliceToArrayPointer 80 (.tmp 31))⟩,
  ⟨some 33, none, none, false, .ldn 16 (.t 32)⟩,
  ⟨some 34, none, none, false, .bsl 80 16 1 [(.int .u16 0), (.int .u16 0), (.int .u16 0), (.int .u16 0), (.int .u16 0), (.int .u16 0), (.int .u16 0), (.int .u16 0), (.int .u16 0), (.int .u16 0), (.int .u16 0), (.int .u16 0), (.int .u16 0), (.int .u16 0), (.int .u16 0), (.int .u16 0)] [(0, 16, (.t 33))]⟩,
  ⟨some 35, none, none, false, .app 80 16 32 (.t 27) (.t 34)⟩,
  ⟨some 6, none, none, false, .mov (.t 35)⟩]))) (.ops [⟨some 36, none, none, false, .bin .add 3 true (.t 24) (.v (.int .i64 1))⟩,
  ⟨some 24, none, none, false, .mov (.t 36)⟩]))))
/-- strobe/probe.Blocks; results .tmp 2,.tmp 3 -/
noncomputable def r10 : RC := (.seq (.ops [⟨some 2, none, none, false, .mov (.v .nils)⟩,
  ⟨some 3, none, none, false, .mov (.v (.int .i64 0))⟩]) (.seq (.seq (.ops [⟨some 8, none, none, false, .mov (.t 0)⟩,
  ⟨some 9, none, none, false, .call 34 [(.t 8)]⟩,
  ⟨some 4, none, none, false, .mov (.t 9)⟩]) (.seq (.ops [⟨some 10, none, none, false, .mov (.t 4)⟩,
  ⟨some 11, none, none, false, .bin .neq 31 true (.t 10) (.v (.int .i64 0))⟩]) (.cond (.t 11) (.seq (.ops [⟨some 12, none, none, false, .mov (.t 4)⟩,
  ⟨some 2, none, none, false, .mov (.v .nils)⟩,
  ⟨some 3, none, none, false, .mov (.t 12)⟩]) .ret) .skip))) (.seq (.ops [⟨some 13, none, none, false, .mov (.t 0)⟩,
  ⟨some 14, none, none, false, .lenL (.t 13)⟩,
  ⟨some 15, none, none, false, .call 35 [(.t 14)]⟩,
  ⟨some 16, none, none, false, .bin .mul 3 true (.v (.int .i64 16)) (.t 15)⟩,
  ⟨some 17, none, none, false, .raw (.makeSlice 39 (.tmp 16) (.tmp 16))⟩,
  ⟨some 5, none, none, false, .mov (.t 17)⟩]) (.seq (.ops [⟨some 18, none, none, false, .mov (.t 5)⟩,
  ⟨some 19, none, none, false, .mov (.t 0)⟩,
  ⟨some 20, none, none, false, .raw (.call { callee := .builtin .copy, args := #[(.tmp 18), (.tmp 19)], argTypes := #[39, 39] })⟩]) (.seq (.ops [⟨some 6, none, none, false, .mov (.v .nils)⟩]) (.seq (.seq (.ops [⟨some 21, none, none, false, .mov (.t 0)⟩,
  ⟨some 22, none, none, false, .lenL (.t 21)⟩,
  ⟨some 23, none, none, false, .call 35 [(.t 22)]⟩,
  ⟨some 24, none, none, false, .mov (.v (.int .i64 0))⟩]) (.block 0 (.loop r10_l0))) (.seq (.ops [⟨some 37, none, none, false, .mov (.t 6)⟩,
  ⟨some 2, none, none, false, .mov (.t 37)⟩,
  ⟨some 3, none, none, false, .mov (.v (.int .i64 0))⟩]) .ret)))))))
theorem k10 : fnRC 10 = some ([.tmp 2, .tmp 3], r10) := by kernel_rfl

noncomputable def r11_l0 : RC := (.seq (.ops [⟨some 30, none, none, false, .bin .lss 3 false (.t 29) (.t 28)⟩]) (.seq (.cond (.t 30) .skip (.exit 0)) (.seq (.block 1 (.seq (.ops [⟨some 31, none, none, false, .ixa 16 (.t 27) (.t 29)⟩,
  ⟨some 32, none, none, false, .ldn 16 (.t 31)⟩,
  ⟨some 9, none, none, false, .al [(.int .u16 0), (.int .u16 0), (.int .u16 0), (.int .u16 0), (.int .u16 0), (.int .u16 0), (.int .u16 0), (.int .u16 0), (.int .u16 0), (.int .u16 0), (.int .u16 0), (.int .u16 0), (.int .u16 0), (.int .u16 0), (.int .u16 0), (.int .u16 0)] 80⟩,
  ⟨none, none, none, false, .st 16 (.t 9) (.t 32)⟩]) (.ops [⟨some 33, none, none, false, .mov (.t 7)⟩,
  ⟨some 34, none, none, false, .raw (.slice 80 (.tmp 9) none none none)⟩,
  ⟨some 35, none, none, false, .app 63 1 2 (.t 33) (.t 34)⟩,
  ⟨some 7, none, none, false, .mov (.t 35)⟩]))) (.ops [⟨some 36, none, none, false, .bin .add 3 true (.t 29) (.v (.int .i64 1))⟩,
  ⟨some 29, none, none, false, .mov (.t 36)⟩]))))
/-- strobe/probe.Unpack; results .tmp 4,.tmp 5 -/
noncomputable def r11 : RC := (.seq (.ops [⟨some 4, none, none, false, .mov (.v .nils)⟩,
  ⟨some 5, none, none, false, .mov (.v (.int .i64 0))⟩]) (.seq (.seq (.ops [⟨some 10, none, none, false, .mov (.t 0)⟩,
  ⟨some 11, none, none, false, .lenL (.t 10)⟩,
  ⟨some 12, none, none, false, .bin .gtr 3 true (.t 11) (.v (.int .i64 256))⟩,
  ⟨some 13, none, none, false, .call 23 [(.t 12), (.v (.int .i64 5))]⟩,
  ⟨some 14, none, none, false, .mov (.t 1)⟩,
  ⟨some 15, none, none, false, .call 25 [(.t 14), (.v (.int .i64 0)), (.v (.int .i64 4096))]⟩,
  ⟨some 16, none, none, false, .mov (.t 0)⟩,
  ⟨some 17, none, none, false, .lenL (.t 16)⟩,
  ⟨some 18, none, none, false, .mov (.t 1)⟩,
  ⟨some 19, none, none, false, .call 35 [(.t 18)]⟩,
  ⟨some 20, none, none, false, .bin .neq 3 false (.t 17) (.t 19)⟩,
  ⟨some 21, none, none, false, .call 23 [(.t 20), (.v (.int .i64 2))]⟩,
  ⟨some 22, none, none, false, .bsl 31 1 3 [(.int .i64 0), (.int .i64 0), (.int .i64 0)] [(0, 1, (.t 13)), (1, 1, (.t 15)), (2, 1, (.t 21))]⟩,
  ⟨some 23, none, none, false, .call 22 [(.t 22)]⟩,
  ⟨some 6, none, none, false, .mov (.t 23)⟩]) (.seq (.ops [⟨some 24, none, none, false, .mov (.t 6)⟩,
  ⟨some 25, none, none, false, .bin .neq 31 true (.t 24) (.v (.int .i64 0))⟩]) (.cond (.t 25) (.seq (.ops [⟨some 26, none, none, false, .mov (.t 6)⟩,
  ⟨some 4, none, none, false, .mov (.v .nils)⟩,
  ⟨some 5, none, none, false, .mov (.t 26)⟩]) .ret) .skip))) (.seq (.ops [⟨some 7, none, none, false, .mov (.v .nils)⟩]) (.seq (.seq (.ops [⟨some 27, none, none, false, .mov (.t 0)⟩,
  ⟨some 28, none, none, false, .lenL (.t 27)⟩,
  ⟨some 29, none, none, false, .mov (.v (.int .i64 0))⟩]) (.block 0 (.loop r11_l0))) (.seq (.seq (.ops [⟨some 37, none, none, false, .mov (.t 7)⟩,
  ⟨some 38, none, none, false, .mov (.t 1)⟩,
  ⟨some 39, none, none, false, .sll 1 (.t 37) (some (.t 38)) none⟩,
  ⟨some 40, none, none, false, .call 36 [(.t 39), (.v (.fn (.func 37) [] []))]⟩]) (.cond (.t 40) (.seq (.ops [⟨some 4, none, none, false, .mov (.v .nils)⟩,
  ⟨some 5, none, none, false, .mov (.v (.int .i64 1))⟩]) .ret) .skip)) (.seq (.ops [⟨some 41, none, none, false, .mov (.t 7)⟩,
  ⟨some 42, none, none, false, .mov (.t 1)⟩,
  ⟨some 43, none, none, false, .sll 1 (.t 41) none (some (.t 42))⟩,
  ⟨some 4, none, none, false, .mov (.t 43)⟩,
  ⟨some 5, none, none, false, .mov (.v (.int .i64 0))⟩]) .ret))))))
theorem k11 : fnRC 11 = some ([.tmp 4, .tmp 5], r11) := by kernel_rfl

noncomputable def r12_l0 : RC := (.seq (.seq (.ops [⟨some 11, none, none, false, .mov (.t 5)⟩,
  ⟨some 12, none, none, false, .mov (.t 0)⟩,
  ⟨some 13, none, none, false, .lenL (.t 12)⟩,
  ⟨some 14, none, none, false, .bin .lss 3 false (.t 11) (.t 13)⟩]) (.cond (.t 14) .skip (.exit 0))) (.seq (.block 1 (.seq (.drw 9 [⟨some 17, none, none, false, .mov (.t 0)⟩,
  ⟨some 18, none, none, false, .mov (.t 5)⟩,
  ⟨some 19, none, none, false, .ixa 1 (.t 17) (.t 18)⟩,
  ⟨some 20, none, none, false, .ld1 (.t 19)⟩,
  ⟨some 21, none, none, false, .mov (.t 1)⟩,
  ⟨some 22, none, none, false, .mov (.t 5)⟩,
  ⟨some 23, none, none, false, .ixa 1 (.t 21) (.t 22)⟩,
  ⟨some 24, none, none, false, .ld1 (.t 23)⟩,
  ⟨some 25, none, none, false, .bin .neq 63 false (.t 20) (.t 24)⟩]) (.cond (.t 25) (.seq (.ops [⟨some 4, none, none, false, .mov (.v (.bool false))⟩]) .ret) .skip))) (.ops [⟨some 15, none, none, false, .mov (.t 5)⟩,
  ⟨some 16, none, none, false, .bin .add 3 true (.t 15) (.v (.int .i64 1))⟩,
  ⟨some 5, none, none, false, .mov (.t 16)⟩])))
/-- strobe/stroberef02.SameWords; results .tmp 4 -/
noncomputable def r12 : RC := (.seq (.ops [⟨some 4, none, none, false, .mov (.v (.bool false))⟩]) (.seq (.seq (.ops [⟨some 6, none, none, false, .mov (.t 0)⟩,
  ⟨some 7, none, none, false, .lenL (.t 6)⟩,
  ⟨some 8, none, none, false, .mov (.t 1)⟩,
  ⟨some 9, none, none, false, .lenL (.t 8)⟩,
  ⟨some 10, none, none, false, .bin .neq 3 false (.t 7) (.t 9)⟩]) (.cond (.t 10) (.seq (.ops [⟨some 4, none, none, false, .mov (.v (.bool false))⟩]) .ret) .skip)) (.seq (.seq (.ops [⟨some 5, none, none, false, .mov (.v (.int .i64 0))⟩]) (.block 0 (.loop r12_l0))) (.seq (.ops [⟨some 4, none, none, false, .mov (.v (.bool true))⟩]) .ret))))
theorem k12 : fnRC 12 = some ([.tmp 4], r12) := by kernel_rfl

/-- strobe/probe.Line; results .tmp 4,.tmp 5 -/
noncomputable def r13 : RC := (.seq (.ops [⟨some 3, none, none, false, .box 3 (.t 1)⟩,
  ⟨some 4, none, none, false, .mov (.v .nils)⟩,
  ⟨some 5, none, none, false, .mov (.v (.int .i64 0))⟩]) (.seq (.seq (.drw 7 [⟨some 7, none, none, false, .mov (.t 0)⟩,
  ⟨some 8, none, none, false, .call 34 [(.t 7)]⟩,
  ⟨some 9, none, none, false, .ld1 (.t 3)⟩,
  ⟨some 10, none, none, false, .call 25 [(.t 9), (.v (.int .i64 0)), (.v (.int .i64 15))]⟩,
  ⟨some 11, none, some 4, false, .bsl 31 1 2 [(.int .i64 0), (.int .i64 0)] [(0, 1, (.t 8)), (1, 1, (.t 10))]⟩,
  ⟨some 12, none, none, false, .call 22 [(.t 11)]⟩,
  ⟨some 6, none, none, false, .mov (.t 12)⟩]) (.seq (.ops [⟨some 13, none, none, false, .mov (.t 6)⟩,
  ⟨some 14, none, none, false, .bin .neq 31 true (.t 13) (.v (.int .i64 0))⟩]) (.cond (.t 14) (.seq (.ops [⟨some 15, none, none, false, .mov (.t 6)⟩,
  ⟨some 4, none, none, false, .mov (.v .nils)⟩,
  ⟨some 5, none, none, false, .mov (.t 15)⟩]) .ret) .skip))) (.seq (.ops [⟨some 16, none, none, false, .mov (.t 0)⟩,
  ⟨some 17, none, none, false, .mkf 39 [] [(.t 3)]⟩,
  ⟨some 18, none, none, false, .call 38 [(.t 16), (.t 17)]⟩,
  ⟨some 4, none, none, false, .mov (.t 18)⟩,
  ⟨some 5, none, none, false, .mov (.v (.int .i64 0))⟩]) .ret)))
theorem k13 : fnRC 13 = some ([.tmp 4, .tmp 5], r13) := by kernel_rfl

noncomputable def r14_l0 : RC := (.seq (.ops [⟨some 18, none, none, false, .bin .lss 3 false (.t 17) (.t 16)⟩]) (.seq (.cond (.t 18) .skip (.exit 0)) (.seq (.block 1 (.seq (.ops [⟨some 19, none, none, false, .mov (.t 17)⟩,
  ⟨some 20, none, none, false, .ixa 1 (.t 15) (.t 17)⟩,
  ⟨some 21, none, none, false, .ld1 (.t 20)⟩,
  ⟨some 8, none, none, false, .mov (.t 19)⟩,
  ⟨some 9, none, none, false, .mov (.t 21)⟩]) (.seq (.seq (.ops [⟨some 22, none, none, false, .mov (.t 9)⟩,
  ⟨some 23, none, none, false, .mov (.t 1)⟩,
  ⟨some 24, none, none, false, .bin .neq 4 false (.t 22) (.t 23)⟩]) (.cond (.t 24) (.ops [⟨some 25, none, none, false, .mov (.t 7)⟩,
  ⟨some 26, none, none, false, .mov (.t 8)⟩,
  ⟨some 27, none, none, false, .bsl 3 1 1 [(.int .i64 0)] [(0, 1, (.t 26))]⟩,
  ⟨some 28, none, none, false, .app 3 1 8 (.t 25) (.t 27)⟩,
  ⟨some 7, none, none, false, .mov (.t 28)⟩]) .skip)) (.ops [⟨some 29, none, none, false, .mov (.t 9)⟩,
  ⟨some 1, none, none, false, .mov (.t 29)⟩])))) (.ops [⟨some 30, none, none, false, .bin .add 3 true (.t 17) (.v (.int .i64 1))⟩,
  ⟨some 17, none, none, false, .mov (.t 30)⟩]))))
/-- strobe/probe.Changes; results .tmp 4,.tmp 5 -/
noncomputable def r14 : RC := (.seq (.ops [⟨some 4, none, none, false, .mov (.v .nils)⟩,
  ⟨some 5, none, none, false, .mov (.v (.int .i64 0))⟩]) (.seq (.seq (.ops [⟨some 10, none, none, false, .mov (.t 0)⟩,
  ⟨some 11, none, none, false, .call 40 [(.t 10)]⟩,
  ⟨some 6, none, none, false, .mov (.t 11)⟩]) (.seq (.ops [⟨some 12, none, none, false, .mov (.t 6)⟩,
  ⟨some 13, none, none, false, .bin .neq 31 true (.t 12) (.v (.int .i64 0))⟩]) (.cond (.t 13) (.seq (.ops [⟨some 14, none, none, false, .mov (.t 6)⟩,
  ⟨some 4, none, none, false, .mov (.v .nils)⟩,
  ⟨some 5, none, none, false, .mov (.t 14)⟩]) .ret) .skip))) (.seq (.ops [⟨some 7, none, none, false, .mov (.v .nils)⟩]) (.seq (.seq (.ops [⟨some 15, none, none, false, .mov (.t 0)⟩,
  ⟨some 16, none, none, false, .lenL (.t 15)⟩,
  ⟨some 17, none, none, false, .mov (.v (.int .i64 0))⟩]) (.block 0 (.loop r14_l0))) (.seq (.ops [⟨some 31, none, none, false, .mov (.t 7)⟩,
  ⟨some 4, none, none, false, .mov (.t 31)⟩,
  ⟨some 5, none, none, false, .mov (.v (.int .i64 0))⟩]) .ret)))))
theorem k14 : fnRC 14 = some ([.tmp 4, .tmp 5], r14) := by kernel_rfl

noncomputable def r15_l0 : RC := (.seq (.ops [⟨some 26, none, none, false, .bin .lss 3 false (.t 25) (.t 24)⟩]) (.seq (.cond (.t 26) .skip (.exit 0)) (.seq (.block 1 (.seq (.ops [⟨some 27, none, none, false, .mov (.t 25)⟩,
  ⟨some 28, none, none, false, .ixa 1 (.t 23) (.t 25)⟩,
  ⟨some 29, none, none, false, .ld1 (.t 28)⟩,
  ⟨some 9, none, none, false, .mov (.t 27)⟩,
  ⟨some 10, none, none, false, .mov (.t 29)⟩]) (.seq (.ops [⟨some 30, none, none, false, .mov (.t 10)⟩,
  ⟨some 31, none, none, false, .mov (.t 2)⟩,
  ⟨some 32, none, none, false, .bin .sub 3 true (.t 31) (.v (.int .i64 1))⟩,
  ⟨some 33, none, none, false, .call 25 [(.t 30), (.v (.int .i64 0)), (.t 32)]⟩,
  ⟨some 34, none, none, false, .mov (.t 9)⟩,
  ⟨some 35, none, none, false, .bin .gtr 3 true (.t 34) (.v (.int .i64 0))⟩,
  ⟨some 36, none, none, false, .mov (.t 35)⟩,
  ⟨some 37, some (36, true), none, false, .mov (.t 10)⟩,
  ⟨some 38, some (36, true), none, false, .mov (.t 0)⟩,
  ⟨some 39, some (36, true), none, false, .mov (.t 9)⟩,
  ⟨some 40, some (36, true), none, false, .bin .sub 3 true (.t 39) (.v (.int .i64 1))⟩,
  ⟨some 41, some (36, true), none, false, .raw (.call { callee := .builtin .max, args := #[(.const (.int .i64 0)), (.tmp 40)], argTypes := #[3, 3] })⟩,
  ⟨some 42, some (36, true), none, false, .ixa 1 (.t 38) (.t 41)⟩,
  ⟨some 43, some (36, true), none, false, .ld1 (.t 42)⟩,
  ⟨some 44, some (36, true), none, false, .bin .leq 3 false (.t 37) (.t 43)⟩,
  ⟨some 45, none, none, false, .pick (.t 36) (.t 44) (.v (.bool false))⟩,
  ⟨some 46, none, none, false, .call 23 [(.t 45), (.v (.int .i64 11))]⟩,
  ⟨some 47, none, none, false, .bsl 31 1 2 [(.int .i64 0), (.int .i64 0)] [(0, 1, (.t 33)), (1, 1, (.t 46))]⟩,
  ⟨some 48, none, none, false, .call 22 [(.t 47)]⟩,
  ⟨some 11, none, none, false, .mov (.t 48)⟩]) (.seq (.ops [⟨some 49, none, none, false, .mov (.t 11)⟩,
  ⟨some 50, none, none, false, .bin .neq 31 true (.t 49) (.v (.int .i64 0))⟩]) (.cond (.t 50) (.seq (.ops [⟨some 51, none, none, false, .mov (.t 11)⟩,
  ⟨some 6, none, none, false, .mov (.v .nils)⟩,
  ⟨some 7, none, none, false, .mov (.t 51)⟩]) .ret) .skip))))) (.ops [⟨some 52, none, none, false, .bin .add 3 true (.t 25) (.v (.int .i64 1))⟩,
  ⟨some 25, none, none, false, .mov (.t 52)⟩]))))
noncomputable def r15_l1 : RC := (.seq (.ops [⟨some 57, none, none, false, .bin .lss 3 false (.t 56) (.t 55)⟩]) (.seq (.cond (.t 57) .skip (.exit 2)) (.seq (.block 3 (.seq (.ops [⟨some 58, none, none, false, .mov (.t 56)⟩,
  ⟨some 13, none, none, false, .mov (.t 58)⟩]) (.seq (.seq (.ops [⟨some 59, none, none, false, .mov (.t 0)⟩,
  ⟨some 60, none, none, false, .lenL (.t 59)⟩,
  ⟨some 61, none, none, false, .bin .gtr 3 true (.t 60) (.v (.int .i64 0))⟩,
  ⟨some 62, none, none, false, .mov (.t 61)⟩,
  ⟨some 63, some (62, true), none, false, .mov (.t 0)⟩,
  ⟨some 64, some (62, true), none, false, .ixa 1 (.t 63) (.v (.int .i64 0))⟩,
  ⟨some 65, some (62, true), none, false, .ld1 (.t 64)⟩,
  ⟨some 66, some (62, true), none, false, .mov (.t 13)⟩,
  ⟨some 67, some (62, true), none, false, .bin .eql 3 false (.t 65) (.t 66)⟩,
  ⟨some 68, none, none, false, .pick (.t 62) (.t 67) (.v (.bool false))⟩]) (.cond (.t 68) (.drw 6 [⟨some 69, none, none, false, .mov (.t 1)⟩,
  ⟨some 70, none, none, false, .un .not (.t 69)⟩,
  ⟨some 71, none, none, false, .mov (.t 0)⟩,
  ⟨some 72, none, none, false, .sll 1 (.t 71) (some (.v (.int .i64 1))) none⟩,
  ⟨some 1, none, none, false, .mov (.t 70)⟩,
  ⟨some 0, none, none, false, .mov (.t 72)⟩]) .skip)) (.ops [⟨some 73, none, none, false, .mov (.t 12)⟩,
  ⟨some 74, none, none, false, .mov (.t 13)⟩,
  ⟨some 75, none, none, false, .mov (.t 1)⟩,
  ⟨some 76, none, none, false, .ixa 1 (.t 73) (.t 74)⟩,
  ⟨none, none, none, false, .st 1 (.t 76) (.t 75)⟩])))) (.ops [⟨some 77, none, none, false, .bin .add 3 true (.t 56) (.v (.int .i64 1))⟩,
  ⟨some 56, none, none, false, .mov (.t 77)⟩]))))
/-- strobe/probe.FromChanges; results .tmp 6,.tmp 7 -/
noncomputable def r15 : RC := (.seq (.ops [⟨some 6, none, none, false, .mov (.v .nils)⟩,
  ⟨some 7, none, none, false, .mov (.v (.int .i64 0))⟩]) (.seq (.seq (.ops [⟨some 14, none, none, false, .mov (.t 0)⟩,
  ⟨some 15, none, none, false, .call 41 [(.t 14)]⟩,
  ⟨some 16, none, none, false, .mov (.t 2)⟩,
  ⟨some 17, none, none, false, .call 25 [(.t 16), (.v (.int .i64 0)), (.v (.int .i64 4096))]⟩,
  ⟨some 18, none, none, false, .bsl 31 1 2 [(.int .i64 0), (.int .i64 0)] [(0, 1, (.t 15)), (1, 1, (.t 17))]⟩,
  ⟨some 19, none, none, false, .call 22 [(.t 18)]⟩,
  ⟨some 8, none, none, false, .mov (.t 19)⟩]) (.seq (.ops [⟨some 20, none, none, false, .mov (.t 8)⟩,
  ⟨some 21, none, none, false, .bin .neq 31 true (.t 20) (.v (.int .i64 0))⟩]) (.cond (.t 21) (.seq (.ops [⟨some 22, none, none, false, .mov (.t 8)⟩,
  ⟨some 6, none, none, false, .mov (.v .nils)⟩,
  ⟨some 7, none, none, false, .mov (.t 22)⟩]) .ret) .skip))) (.seq (.seq (.ops [⟨some 23, none, none, false, .mov (.t 0)⟩,
  ⟨some 24, none, none, false, .lenL (.t 23)⟩,
  ⟨some 25, none, none, false, .mov (.v (.int .i64 0))⟩]) (.block 0 (.loop r15_l0))) (.seq (.ops [⟨some 53, none, none, false, .mov (.t 2)⟩,
  ⟨some 54, none, none, false, .raw (.makeSlice 35 (.tmp 53) (.tmp 53))⟩,
  ⟨some 12, none, none, false, .mov (.t 54)⟩]) (.seq (.seq (.ops [⟨some 55, none, none, false, .mov (.t 2)⟩,
  ⟨some 56, none, none, false, .mov (.v (.int .i64 0))⟩]) (.block 2 (.loop r15_l1))) (.seq (.ops [⟨some 78, none, none, false, .mov (.t 12)⟩,
  ⟨some 6, none, none, false, .mov (.t 78)⟩,
  ⟨some 7, none, none, false, .mov (.v (.int .i64 0))⟩]) .ret))))))
theorem k15 : fnRC 15 = some ([.tmp 6, .tmp 7], r15) := by kernel_rfl

noncomputable def r16_l0 : RC := (.seq (.seq (.ops [⟨some 11, none, none, false, .mov (.t 5)⟩,
  ⟨some 12, none, none, false, .mov (.t 0)⟩,
  ⟨some 13, none, none, false, .lenL (.t 12)⟩,
  ⟨some 14, none, none, false, .bin .lss 3 false (.t 11) (.t 13)⟩]) (.cond (.t 14) .skip (.exit 0))) (.seq (.block 1 (.seq (.drw 9 [⟨some 17, none, none, false, .mov (.t 0)⟩,
  ⟨some 18, none, none, false, .mov (.t 5)⟩,
  ⟨some 19, none, none, false, .ixa 1 (.t 17) (.t 18)⟩,
  ⟨some 20, none, none, false, .ld1 (.t 19)⟩,
  ⟨some 21, none, none, false, .mov (.t 1)⟩,
  ⟨some 22, none, none, false, .mov (.t 5)⟩,
  ⟨some 23, none, none, false, .ixa 1 (.t 21) (.t 22)⟩,
  ⟨some 24, none, none, false, .ld1 (.t 23)⟩,
  ⟨some 25, none, none, false, .bin .neq 4 false (.t 20) (.t 24)⟩]) (.cond (.t 25) (.seq (.ops [⟨some 4, none, none, false, .mov (.v (.bool false))⟩]) .ret) .skip))) (.ops [⟨some 15, none, none, false, .mov (.t 5)⟩,
  ⟨some 16, none, none, false, .bin .add 3 true (.t 15) (.v (.int .i64 1))⟩,
  ⟨some 5, none, none, false, .mov (.t 16)⟩])))
/-- strobe/stroberef02.SameBools; results .tmp 4 -/
noncomputable def r16 : RC := (.seq (.ops [⟨some 4, none, none, false, .mov (.v (.bool false))⟩]) (.seq (.seq (.ops [⟨some 6, none, none, false, .mov (.t 0)⟩,
  ⟨some 7, none, none, false, .lenL (.t 6)⟩,
  ⟨some 8, none, none, false, .mov (.t 1)⟩,
  ⟨some 9, none, none, false, .lenL (.t 8)⟩,
  ⟨some 10, none, none, false, .bin .neq 3 false (.t 7) (.t 9)⟩]) (.cond (.t 10) (.seq (.ops [⟨some 4, none, none, false, .mov (.v (.bool false))⟩]) .ret) .skip)) (.seq (.seq (.ops [⟨some 5, none, none, false, .mov (.v (.int .i64 0))⟩]) (.block 0 (.loop r16_l0))) (.seq (.ops [⟨some 4, none, none, false, .mov (.v (.bool true))⟩]) .ret))))
theorem k16 : fnRC 16 = some ([.tmp 4], r16) := by kernel_rfl

noncomputable def r17_l0 : RC := (.seq (.seq (.ops [⟨some 7, none, none, false, .mov (.t 3)⟩,
  ⟨some 8, none, none, false, .mov (.t 0)⟩,
  ⟨some 9, none, none, false, .lenL (.t 8)⟩,
  ⟨some 10, none, none, false, .bin .lss 3 false (.t 7) (.t 9)⟩]) (.cond (.t 10) .skip (.exit 0))) (.seq (.block 1 (.seq (.ops [⟨some 13, none, none, false, .mov (.t 0)⟩,
  ⟨some 14, none, none, false, .mov (.t 3)⟩,
  ⟨some 15, none, none, false, .ixa 1 (.t 13) (.t 14)⟩,
  ⟨some 16, none, none, false, .ld1 (.t 15)⟩,
  ⟨some 17, none, none, false, .call 18 [(.t 16)]⟩,
  ⟨some 18, none, none, false, .un .not (.t 17)⟩]) (.cond (.t 18) (.seq (.ops [⟨some 2, none, none, false, .mov (.v (.int .i64 1))⟩]) .ret) .skip))) (.ops [⟨some 11, none, none, false, .mov (.t 3)⟩,
  ⟨some 12, none, none, false, .bin .add 3 true (.t 11) (.v (.int .i64 1))⟩,
  ⟨some 3, none, none, false, .mov (.t 12)⟩])))
/-- strobe/stroberef01.CheckSamples; results .tmp 2 -/
noncomputable def r17 : RC := (.seq (.ops [⟨some 2, none, none, false, .mov (.v (.int .i64 0))⟩]) (.seq (.seq (.ops [⟨some 4, none, none, false, .mov (.t 0)⟩,
  ⟨some 5, none, none, false, .lenL (.t 4)⟩,
  ⟨some 6, none, none, false, .bin .gtr 3 true (.t 5) (.v (.int .i64 4096))⟩]) (.cond (.t 6) (.seq (.ops [⟨some 2, none, none, false, .mov (.v (.int .i64 5))⟩]) .ret) .skip)) (.seq (.seq (.ops [⟨some 3, none, none, false, .mov (.v (.int .i64 0))⟩]) (.block 0 (.loop r17_l0))) (.seq (.ops [⟨some 2, none, none, false, .mov (.v (.int .i64 0))⟩]) .ret))))
theorem k17 : fnRC 17 = some ([.tmp 2], r17) := by kernel_rfl

noncomputable def r22_l0 : RC := (.seq (.ops [⟨some 8, none, none, false, .bin .lss 3 false (.t 7) (.t 6)⟩]) (.seq (.cond (.t 8) .skip (.exit 0)) (.seq (.block 1 (.seq (.ops [⟨some 9, none, none, false, .ixa 1 (.t 5) (.t 7)⟩,
  ⟨some 10, none, none, false, .ld1 (.t 9)⟩,
  ⟨some 4, none, none, false, .mov (.t 10)⟩]) (.seq (.ops [⟨some 11, none, none, false, .mov (.t 4)⟩,
  ⟨some 12, none, none, false, .bin .neq 31 true (.t 11) (.v (.int .i64 0))⟩]) (.cond (.t 12) (.seq (.ops [⟨some 13, none, none, false, .mov (.t 4)⟩,
  ⟨some 2, none, none, false, .mov (.t 13)⟩]) .ret) .skip)))) (.ops [⟨some 14, none, none, false, .bin .add 3 true (.t 7) (.v (.int .i64 1))⟩,
  ⟨some 7, none, none, false, .mov (.t 14)⟩]))))
/-- strobe/probe.first; results .tmp 2 -/
noncomputable def r22 : RC := (.seq (.ops [⟨some 2, none, none, false, .mov (.v (.int .i64 0))⟩]) (.seq (.seq (.ops [⟨some 5, none, none, false, .mov (.t 0)⟩,
  ⟨some 6, none, none, false, .lenL (.t 5)⟩,
  ⟨some 7, none, none, false, .mov (.v (.int .i64 0))⟩]) (.block 0 (.loop r22_l0))) (.seq (.ops [⟨some 2, none, none, false, .mov (.v (.int .i64 0))⟩]) .ret)))
theorem k22 : fnRC 22 = some ([.tmp 2], r22) := by kernel_rfl

/-- strobe/probe.when; results .tmp 4 -/
noncomputable def r23 : RC := (.seq (.ops [⟨some 4, none, none, false, .mov (.v (.int .i64 0))⟩]) (.seq (.seq (.ops [⟨some 5, none, none, false, .mov (.t 0)⟩]) (.cond (.t 5) (.seq (.ops [⟨some 6, none, none, false, .mov (.t 1)⟩,
  ⟨some 4, none, none, false, .mov (.t 6)⟩]) .ret) .skip)) (.seq (.ops [⟨some 4, none, none, false, .mov (.v (.int .i64 0))⟩]) .ret)))
theorem k23 : fnRC 23 = some ([.tmp 4], r23) := by kernel_rfl

/-- strobe/number.CheckSamples; results .tmp 2 -/
noncomputable def r24 : RC := (.seq (.ops [⟨some 2, none, none, false, .mov (.v (.int .i64 0))⟩]) (.seq (.seq (.ops [⟨some 3, none, none, false, .mov (.t 0)⟩,
  ⟨some 4, none, none, false, .lenL (.t 3)⟩,
  ⟨some 5, none, none, false, .bin .gtr 3 true (.t 4) (.v (.int .i64 4096))⟩]) (.cond (.t 5) (.seq (.ops [⟨some 2, none, none, false, .mov (.v (.int .i64 5))⟩]) .ret) .skip)) (.seq (.ops [⟨some 6, none, none, false, .mov (.t 0)⟩,
  ⟨some 7, none, none, false, .call 56 [(.t 6), (.v (.fn (.func 57) [] []))]⟩,
  ⟨some 2, none, none, false, .mov (.t 7)⟩]) .ret)))
theorem k24 : fnRC 24 = some ([.tmp 2], r24) := by kernel_rfl

/-- strobe/probe.within; results .tmp 6 -/
noncomputable def r25 : RC := (.seq (.ops [⟨some 6, none, none, false, .mov (.v (.int .i64 0))⟩]) (.seq (.ops [⟨some 7, none, none, false, .mov (.t 0)⟩,
  ⟨some 8, none, none, false, .mov (.t 1)⟩,
  ⟨some 9, none, none, false, .bin .lss 3 false (.t 7) (.t 8)⟩,
  ⟨some 10, none, none, false, .mov (.t 9)⟩,
  ⟨some 11, some (10, false), none, false, .mov (.t 0)⟩,
  ⟨some 12, some (10, false), none, false, .mov (.t 2)⟩,
  ⟨some 13, some (10, false), none, false, .bin .gtr 3 false (.t 11) (.t 12)⟩,
  ⟨some 14, none, none, false, .pick (.t 10) (.v (.bool true)) (.t 13)⟩,
  ⟨some 15, none, none, false, .call 23 [(.t 14), (.v (.int .i64 3))]⟩,
  ⟨some 6, none, none, false, .mov (.t 15)⟩]) .ret))
theorem k25 : fnRC 25 = some ([.tmp 6], r25) := by kernel_rfl

noncomputable def r26_l0 : RC := (.seq (.ops [⟨some 11, none, none, false, .bin .lss 3 false (.t 10) (.t 9)⟩]) (.seq (.cond (.t 11) .skip (.exit 0)) (.seq (.block 1 (.seq (.ops [⟨some 12, none, none, false, .ixa 1 (.t 8) (.t 10)⟩,
  ⟨some 13, none, none, false, .ld1 (.t 12)⟩,
  ⟨some 7, none, none, false, .mov (.t 13)⟩]) (.ops [⟨some 14, none, none, false, .mov (.t 5)⟩,
  ⟨some 15, none, none, false, .mov (.t 1)⟩,
  ⟨some 16, none, none, false, .mov (.t 7)⟩,
  ⟨some 17, none, none, false, .callv (.t 15) [(.t 16)]⟩,
  ⟨some 18, none, none, false, .bsl 24 1 1 [(.flt .f32 0)] [(0, 1, (.t 17))]⟩,
  ⟨some 19, none, none, false, .app 24 1 4 (.t 14) (.t 18)⟩,
  ⟨some 5, none, none, false, .mov (.t 19)⟩]))) (.ops [⟨some 20, none, none, false, .bin .add 3 true (.t 10) (.v (.int .i64 1))⟩,
  ⟨some 10, none, none, false, .mov (.t 20)⟩]))))
/-- strobe/probe.mapped[float32,float32]; results .tmp 4 -/
noncomputable def r26 : RC := (.seq (.ops [⟨some 4, none, none, false, .mov (.v .nils)⟩]) (.seq (.ops [⟨some 5, none, none, false, .mov (.v .nils)⟩]) (.seq (.seq (.ops [⟨some 8, none, none, false, .mov (.t 0)⟩,
  ⟨some 9, none, none, false, .lenL (.t 8)⟩,
  ⟨some 10, none, none, false, .mov (.v (.int .i64 0))⟩]) (.block 0 (.loop r26_l0))) (.seq (.ops [⟨some 21, none, none, false, .mov (.t 5)⟩,
  ⟨some 4, none, none, false, .mov (.t 21)⟩]) .ret))))
theorem k26 : fnRC 26 = some ([.tmp 4], r26) := by kernel_rfl

/-- strobe/probe.Aligned$1; results .tmp 2 -/
noncomputable def r27 : RC := (.seq (.ops [⟨some 2, none, none, false, .mov (.v (.flt .f32 0))⟩]) (.seq (.ops [⟨some 3, none, none, false, .mov (.t 0)⟩,
  ⟨some 4, none, none, false, .bin .add 24 true (.t 3) (.v (.flt .f32 0))⟩,
  ⟨some 2, none, none, false, .mov (.t 4)⟩]) .ret))
theorem k27 : fnRC 27 = some ([.tmp 2], r27) := by kernel_rfl

noncomputable def q28_0 : Code := rawAt 28 0
theorem d28_0 : rcDrc U q28_0 = some (15, [(⟨some 3, none, none, false, .fa 0 (.t 1)⟩, none),
  (⟨some 4, none, none, false, .ld1 (.t 3)⟩, none),
  (⟨some 5, none, none, false, .fa 1 (.t 1)⟩, none),
  (⟨some 6, none, none, false, .ld1 (.t 5)⟩, none),
  (⟨some 7, none, some 4, false, .bsl 24 1 2 [(.flt .f32 0), (.flt .f32 0)] [(0, 1, (.t 4)), (1, 1, (.t 6))]⟩, none),
  (⟨some 8, none, none, false, .call 24 [(.t 7)]⟩, none),
  (⟨some 9, none, none, false, .fa 0 (.t 1)⟩, none),
  (⟨some 10, none, none, false, .ld1 (.t 9)⟩, some (0, 0)),
  (⟨some 11, none, none, false, .fa 1 (.t 1)⟩, none),
  (⟨some 12, none, none, false, .ld1 (.t 11)⟩, some (0, 0)),
  (⟨some 13, none, none, false, .bin .geq 24 false (.t 10) (.t 12)⟩, none),
  (⟨some 14, none, none, false, .call 23 [(.t 13), (.v (.int .i64 11))]⟩, none),
  (⟨some 15, none, some 12, false, .bsl 31 1 2 [(.int .i64 0), (.int .i64 0)] [(0, 1, (.t 8)), (1, 1, (.t 14))]⟩, none),
  (⟨some 16, none, none, false, .call 22 [(.t 15)]⟩, none),
  (⟨some 2, none, none, false, .mov (.t 16)⟩, none)]) := by kernel_rfl
/-- strobe/probe.CheckLevels; results .tmp 2 -/
noncomputable def r28 : RC := (.seq (.ops [⟨some 1, none, none, false, .box 38 (.t 0)⟩,
  ⟨some 2, none, none, false, .mov (.v (.int .i64 0))⟩]) (.seq (.raw q28_0) .ret))
theorem k28 : fnRC 28 = some ([.tmp 2], r28) := by kernel_rfl

noncomputable def r29_l0 : RC := (.seq (.ops [⟨some 11, none, none, false, .bin .lss 3 false (.t 10) (.t 9)⟩]) (.seq (.cond (.t 11) .skip (.exit 0)) (.seq (.block 1 (.seq (.ops [⟨some 12, none, none, false, .ixa 1 (.t 8) (.t 10)⟩,
  ⟨some 13, none, none, false, .ld1 (.t 12)⟩,
  ⟨some 7, none, none, false, .mov (.t 13)⟩]) (.ops [⟨some 14, none, none, false, .mov (.t 5)⟩,
  ⟨some 15, none, none, false, .mov (.t 1)⟩,
  ⟨some 16, none, none, false, .mov (.t 7)⟩,
  ⟨some 17, none, none, false, .callv (.t 15) [(.t 16)]⟩,
  ⟨some 18, none, none, false, .bsl 4 1 1 [(.bool false)] [(0, 1, (.t 17))]⟩,
  ⟨some 19, none, none, false, .app 4 1 1 (.t 14) (.t 18)⟩,
  ⟨some 5, none, none, false, .mov (.t 19)⟩]))) (.ops [⟨some 20, none, none, false, .bin .add 3 true (.t 10) (.v (.int .i64 1))⟩,
  ⟨some 10, none, none, false, .mov (.t 20)⟩]))))
/-- strobe/probe.mapped[float32,bool]; results .tmp 4 -/
noncomputable def r29 : RC := (.seq (.ops [⟨some 4, none, none, false, .mov (.v .nils)⟩]) (.seq (.ops [⟨some 5, none, none, false, .mov (.v .nils)⟩]) (.seq (.seq (.ops [⟨some 8, none, none, false, .mov (.t 0)⟩,
  ⟨some 9, none, none, false, .lenL (.t 8)⟩,
  ⟨some 10, none, none, false, .mov (.v (.int .i64 0))⟩]) (.block 0 (.loop r29_l0))) (.seq (.ops [⟨some 21, none, none, false, .mov (.t 5)⟩,
  ⟨some 4, none, none, false, .mov (.t 21)⟩]) .ret))))
theorem k29 : fnRC 29 = some ([.tmp 4], r29) := by kernel_rfl

/-- strobe/probe.keeper; results .tmp 4 -/
noncomputable def r30 : RC := (.seq (.ops [⟨some 2, none, none, false, .box 38 (.t 0)⟩,
  ⟨some 3, none, none, false, .box 4 (.t 1)⟩,
  ⟨some 4, none, none, false, .mov (.v .nilfn)⟩]) (.seq (.ops [⟨some 5, none, none, false, .mkf 60 [] [(.t 2), (.t 3)]⟩,
  ⟨some 4, none, none, false, .mov (.t 5)⟩]) .ret))
theorem k30 : fnRC 30 = some ([.tmp 4], r30) := by kernel_rfl

/-- slices.ContainsFunc[[][]bool,[]bool]; results .tmp 4 -/
noncomputable def r31 : RC := (.seq (.ops [⟨some 4, none, none, false, .mov (.v (.bool false))⟩]) (.seq (.ops [⟨some 5, none, none, false, .mov (.t 0)⟩,
  ⟨some 6, none, none, false, .mov (.t 1)⟩,
  ⟨some 7, none, none, false, .call 61 [(.t 5), (.t 6)]⟩,
  ⟨some 8, none, none, false, .bin .geq 3 true (.t 7) (.v (.int .i64 0))⟩,
  ⟨some 4, none, none, false, .mov (.t 8)⟩]) .ret))
theorem k31 : fnRC 31 = some ([.tmp 4], r31) := by kernel_rfl

/-- strobe/probe.Words$1; results .tmp 3 -/
noncomputable def r32 : RC := (.seq (.ops [⟨some 3, none, none, false, .mov (.v (.bool false))⟩]) (.seq (.ops [⟨some 4, none, none, false, .mov (.t 0)⟩,
  ⟨some 5, none, none, false, .lenL (.t 4)⟩,
  ⟨some 6, none, none, false, .ld1 (.t 1)⟩,
  ⟨some 7, none, none, false, .ixa 1 (.t 6) (.v (.int .i64 0))⟩,
  ⟨some 8, none, none, false, .ld1 (.t 7)⟩,
  ⟨some 9, none, none, false, .lenL (.t 8)⟩,
  ⟨some 10, none, none, false, .bin .neq 3 false (.t 5) (.t 9)⟩,
  ⟨some 3, none, none, false, .mov (.t 10)⟩]) .ret))
theorem k32 : fnRC 32 = some ([.tmp 3], r32) := by kernel_rfl

/-- strobe/probe.columns; results .tmp 2 -/
noncomputable def r33 : RC := (.seq (.ops [⟨some 1, none, none, false, .box 34 (.t 0)⟩,
  ⟨some 2, none, none, false, .mov (.v .nilfn)⟩]) (.seq (.ops [⟨some 3, none, none, false, .mkf 62 [] [(.t 1)]⟩,
  ⟨some 2, none, none, false, .mov (.t 3)⟩]) .ret))
theorem k33 : fnRC 33 = some ([.tmp 2], r33) := by kernel_rfl

/-- strobe/probe.few[uint16]; results .tmp 2 -/
noncomputable def r34 : RC := (.seq (.ops [⟨some 2, none, none, false, .mov (.v (.int .i64 0))⟩]) (.seq (.ops [⟨some 3, none, none, false, .mov (.t 0)⟩,
  ⟨some 4, none, none, false, .lenL (.t 3)⟩,
  ⟨some 5, none, none, false, .bin .gtr 3 true (.t 4) (.v (.int .i64 4096))⟩,
  ⟨some 6, none, none, false, .call 23 [(.t 5), (.v (.int .i64 5))]⟩,
  ⟨some 2, none, none, false, .mov (.t 6)⟩]) .ret))
theorem k34 : fnRC 34 = some ([.tmp 2], r34) := by kernel_rfl

/-- strobe/probe.blocks; results .tmp 2 -/
noncomputable def r35 : RC := (.seq (.ops [⟨some 2, none, none, false, .mov (.v (.int .i64 0))⟩]) (.seq (.ops [⟨some 3, none, none, false, .mov (.t 0)⟩,
  ⟨some 4, none, none, false, .bin .add 3 true (.t 3) (.v (.int .i64 16))⟩,
  ⟨some 5, none, none, false, .bin .sub 3 true (.t 4) (.v (.int .i64 1))⟩,
  ⟨some 6, none, none, false, .bin .quo 3 true (.t 5) (.v (.int .i64 16))⟩,
  ⟨some 2, none, none, false, .mov (.t 6)⟩]) .ret))
theorem k35 : fnRC 35 = some ([.tmp 2], r35) := by kernel_rfl

/-- slices.ContainsFunc[[]uint16,uint16]; results .tmp 4 -/
noncomputable def r36 : RC := (.seq (.ops [⟨some 4, none, none, false, .mov (.v (.bool false))⟩]) (.seq (.ops [⟨some 5, none, none, false, .mov (.t 0)⟩,
  ⟨some 6, none, none, false, .mov (.t 1)⟩,
  ⟨some 7, none, none, false, .call 63 [(.t 5), (.t 6)]⟩,
  ⟨some 8, none, none, false, .bin .geq 3 true (.t 7) (.v (.int .i64 0))⟩,
  ⟨some 4, none, none, false, .mov (.t 8)⟩]) .ret))
theorem k36 : fnRC 36 = some ([.tmp 4], r36) := by kernel_rfl

/-- strobe/probe.Unpack$1; results .tmp 2 -/
noncomputable def r37 : RC := (.seq (.ops [⟨some 2, none, none, false, .mov (.v (.bool false))⟩]) (.seq (.ops [⟨some 3, none, none, false, .mov (.t 0)⟩,
  ⟨some 4, none, none, false, .bin .neq 63 true (.t 3) (.v (.int .u16 0))⟩,
  ⟨some 2, none, none, false, .mov (.t 4)⟩]) .ret))
theorem k37 : fnRC 37 = some ([.tmp 2], r37) := by kernel_rfl

noncomputable def r38_l0 : RC := (.seq (.ops [⟨some 11, none, none, false, .bin .lss 3 false (.t 10) (.t 9)⟩]) (.seq (.cond (.t 11) .skip (.exit 0)) (.seq (.block 1 (.seq (.ops [⟨some 12, none, none, false, .ixa 1 (.t 8) (.t 10)⟩,
  ⟨some 13, none, none, false, .ld1 (.t 12)⟩,
  ⟨some 7, none, none, false, .mov (.t 13)⟩]) (.ops [⟨some 14, none, none, false, .mov (.t 5)⟩,
  ⟨some 15, none, none, false, .mov (.t 1)⟩,
  ⟨some 16, none, none, false, .mov (.t 7)⟩,
  ⟨some 17, none, none, false, .callv (.t 15) [(.t 16)]⟩,
  ⟨some 18, none, none, false, .bsl 4 1 1 [(.bool false)] [(0, 1, (.t 17))]⟩,
  ⟨some 19, none, none, false, .app 4 1 1 (.t 14) (.t 18)⟩,
  ⟨some 5, none, none, false, .mov (.t 19)⟩]))) (.ops [⟨some 20, none, none, false, .bin .add 3 true (.t 10) (.v (.int .i64 1))⟩,
  ⟨some 10, none, none, false, .mov (.t 20)⟩]))))
/-- strobe/probe.mapped[uint16,bool]; results .tmp 4 -/
noncomputable def r38 : RC := (.seq (.ops [⟨some 4, none, none, false, .mov (.v .nils)⟩]) (.seq (.ops [⟨some 5, none, none, false, .mov (.v .nils)⟩]) (.seq (.seq (.ops [⟨some 8, none, none, false, .mov (.t 0)⟩,
  ⟨some 9, none, none, false, .lenL (.t 8)⟩,
  ⟨some 10, none, none, false, .mov (.v (.int .i64 0))⟩]) (.block 0 (.loop r38_l0))) (.seq (.ops [⟨some 21, none, none, false, .mov (.t 5)⟩,
  ⟨some 4, none, none, false, .mov (.t 21)⟩]) .ret))))
theorem k38 : fnRC 38 = some ([.tmp 4], r38) := by kernel_rfl

/-- strobe/probe.Line$1; results .tmp 3 -/
noncomputable def r39 : RC := (.seq (.ops [⟨some 3, none, none, false, .mov (.v (.bool false))⟩]) (.seq (.ops [⟨some 4, none, none, false, .mov (.t 0)⟩,
  ⟨some 5, none, none, false, .ld1 (.t 1)⟩,
  ⟨some 6, none, none, false, .bin .shr 63 false (.t 4) (.t 5)⟩,
  ⟨some 7, none, none, false, .bin .and 63 true (.t 6) (.v (.int .u16 1))⟩,
  ⟨some 8, none, none, false, .bin .eql 63 true (.t 7) (.v (.int .u16 1))⟩,
  ⟨some 3, none, none, false, .mov (.t 8)⟩]) .ret))
theorem k39 : fnRC 39 = some ([.tmp 3], r39) := by kernel_rfl

/-- strobe/probe.few[bool]; results .tmp 2 -/
noncomputable def r40 : RC := (.seq (.ops [⟨some 2, none, none, false, .mov (.v (.int .i64 0))⟩]) (.seq (.ops [⟨some 3, none, none, false, .mov (.t 0)⟩,
  ⟨some 4, none, none, false, .lenL (.t 3)⟩,
  ⟨some 5, none, none, false, .bin .gtr 3 true (.t 4) (.v (.int .i64 4096))⟩,
  ⟨some 6, none, none, false, .call 23 [(.t 5), (.v (.int .i64 5))]⟩,
  ⟨some 2, none, none, false, .mov (.t 6)⟩]) .ret))
theorem k40 : fnRC 40 = some ([.tmp 2], r40) := by kernel_rfl

/-- strobe/probe.few[int]; results .tmp 2 -/
noncomputable def r41 : RC := (.seq (.ops [⟨some 2, none, none, false, .mov (.v (.int .i64 0))⟩]) (.seq (.ops [⟨some 3, none, none, false, .mov (.t 0)⟩,
  ⟨some 4, none, none, false, .lenL (.t 3)⟩,
  ⟨some 5, none, none, false, .bin .gtr 3 true (.t 4) (.v (.int .i64 4096))⟩,
  ⟨some 6, none, none, false, .call 23 [(.t 5), (.v (.int .i64 5))]⟩,
  ⟨some 2, none, none, false, .mov (.t 6)⟩]) .ret))
theorem k41 : fnRC 41 = some ([.tmp 2], r41) := by kernel_rfl

noncomputable def r56_l0 : RC := (.seq (.ops [⟨some 11, none, none, false, .bin .lss 3 false (.t 10) (.t 9)⟩]) (.seq (.cond (.t 11) .skip (.exit 0)) (.seq (.block 1 (.seq (.ops [⟨some 12, none, none, false, .mov (.t 10)⟩,
  ⟨some 13, none, none, false, .ixa 1 (.t 8) (.t 10)⟩,
  ⟨some 14, none, none, false, .ld1 (.t 13)⟩,
  ⟨some 5, none, none, false, .mov (.t 12)⟩,
  ⟨some 6, none, none, false, .mov (.t 14)⟩]) (.seq (.ops [⟨some 15, none, none, false, .mov (.t 1)⟩,
  ⟨some 16, none, none, false, .mov (.t 5)⟩,
  ⟨some 17, none, none, false, .mov (.t 6)⟩,
  ⟨some 18, none, none, false, .callv (.t 15) [(.t 16), (.t 17)]⟩,
  ⟨some 7, none, none, false, .mov (.t 18)⟩]) (.seq (.ops [⟨some 19, none, none, false, .mov (.t 7)⟩,
  ⟨some 20, none, none, false, .bin .neq 31 true (.t 19) (.v (.int .i64 0))⟩]) (.cond (.t 20) (.seq (.ops [⟨some 21, none, none, false, .mov (.t 7)⟩,
  ⟨some 4, none, none, false, .mov (.t 21)⟩]) .ret) .skip))))) (.ops [⟨some 22, none, none, false, .bin .add 3 true (.t 10) (.v (.int .i64 1))⟩,
  ⟨some 10, none, none, false, .mov (.t 22)⟩]))))
/-- strobe/number.each[float32]; results .tmp 4 -/
noncomputable def r56 : RC := (.seq (.ops [⟨some 4, none, none, false, .mov (.v (.int .i64 0))⟩]) (.seq (.seq (.ops [⟨some 8, none, none, false, .mov (.t 0)⟩,
  ⟨some 9, none, none, false, .lenL (.t 8)⟩,
  ⟨some 10, none, none, false, .mov (.v (.int .i64 0))⟩]) (.block 0 (.loop r56_l0))) (.seq (.ops [⟨some 4, none, none, false, .mov (.v (.int .i64 0))⟩]) .ret)))
theorem k56 : fnRC 56 = some ([.tmp 4], r56) := by kernel_rfl

/-- strobe/number.CheckSamples$1; results .tmp 4 -/
noncomputable def r57 : RC := (.seq (.ops [⟨some 4, none, none, false, .mov (.v (.int .i64 0))⟩]) (.seq (.ops [⟨some 5, none, none, false, .mov (.t 1)⟩,
  ⟨some 6, none, none, false, .call 59 [(.t 5)]⟩,
  ⟨some 7, none, none, false, .un .not (.t 6)⟩,
  ⟨some 8, none, none, false, .call 58 [(.t 7), (.v (.int .i64 1))]⟩,
  ⟨some 4, none, none, false, .mov (.t 8)⟩]) .ret))
theorem k57 : fnRC 57 = some ([.tmp 4], r57) := by kernel_rfl

/-- strobe/number.when; results .tmp 4 -/
noncomputable def r58 : RC := (.seq (.ops [⟨some 4, none, none, false, .mov (.v (.int .i64 0))⟩]) (.seq (.seq (.ops [⟨some 5, none, none, false, .mov (.t 0)⟩]) (.cond (.t 5) (.seq (.ops [⟨some 6, none, none, false, .mov (.t 1)⟩,
  ⟨some 4, none, none, false, .mov (.t 6)⟩]) .ret) .skip)) (.seq (.ops [⟨some 4, none, none, false, .mov (.v (.int .i64 0))⟩]) .ret)))
theorem k58 : fnRC 58 = some ([.tmp 4], r58) := by kernel_rfl

/-- strobe/number.finite; results .tmp 2 -/
noncomputable def r59 : RC := (.seq (.ops [⟨some 2, none, none, false, .mov (.v (.bool false))⟩]) (.seq (.ops [⟨some 3, none, none, false, .mov (.t 0)⟩,
  ⟨some 4, none, none, false, .mov (.t 0)⟩,
  ⟨some 5, none, none, false, .bin .sub 24 false (.t 3) (.t 4)⟩,
  ⟨some 6, none, none, false, .bin .eql 24 true (.t 5) (.v (.flt .f32 0))⟩,
  ⟨some 2, none, none, false, .mov (.t 6)⟩]) .ret))
theorem k59 : fnRC 59 = some ([.tmp 2], r59) := by kernel_rfl

/-- strobe/probe.keeper$1; results .tmp 4 -/
noncomputable def r60 : RC := (.seq (.ops [⟨some 4, none, none, false, .mov (.v (.bool false))⟩]) (.seq (.block 0 (.seq (.ops [⟨some 6, none, none, false, .mov (.t 0)⟩,
  ⟨some 7, none, none, false, .fa 1 (.t 1)⟩,
  ⟨some 8, none, none, false, .ld1 (.t 7)⟩,
  ⟨some 9, none, none, false, .bin .geq 24 false (.t 6) (.t 8)⟩,
  ⟨some 5, none, none, false, .mov (.t 9)⟩]) (.cond (.t 5) (.ops [⟨none, none, none, false, .st 1 (.t 2) (.v (.bool true))⟩]) (.seq (.ops [⟨some 11, none, none, false, .mov (.t 0)⟩,
  ⟨some 12, none, none, false, .fa 0 (.t 1)⟩,
  ⟨some 13, none, none, false, .ld1 (.t 12)⟩,
  ⟨some 14, none, none, false, .bin .leq 24 false (.t 11) (.t 13)⟩,
  ⟨some 10, none, none, false, .mov (.t 14)⟩]) (.cond (.t 10) (.ops [⟨none, none, none, false, .st 1 (.t 2) (.v (.bool false))⟩]) .skip))))) (.seq (.ops [⟨some 15, none, none, false, .ld1 (.t 2)⟩,
  ⟨some 4, none, none, false, .mov (.t 15)⟩]) .ret)))
theorem k60 : fnRC 60 = some ([.tmp 4], r60) := by kernel_rfl

noncomputable def r61_l0 : RC := (.seq (.ops [⟨some 9, none, none, false, .bin .lss 3 false (.t 8) (.t 7)⟩]) (.seq (.cond (.t 9) .skip (.exit 0)) (.seq (.block 1 (.seq (.ops [⟨some 10, none, none, false, .mov (.t 8)⟩,
  ⟨some 5, none, none, false, .mov (.t 10)⟩]) (.seq (.ops [⟨some 11, none, none, false, .mov (.t 1)⟩,
  ⟨some 12, none, none, false, .mov (.t 0)⟩,
  ⟨some 13, none, none, false, .mov (.t 5)⟩,
  ⟨some 14, none, none, false, .ixa 1 (.t 12) (.t 13)⟩,
  ⟨some 15, none, none, false, .ld1 (.t 14)⟩,
  ⟨some 16, none, none, false, .callv (.t 11) [(.t 15)]⟩]) (.cond (.t 16) (.seq (.ops [⟨some 17, none, none, false, .mov (.t 5)⟩,
  ⟨some 4, none, none, false, .mov (.t 17)⟩]) .ret) .skip)))) (.ops [⟨some 18, none, none, false, .bin .add 3 true (.t 8) (.v (.int .i64 1))⟩,
  ⟨some 8, none, none, false, .mov (.t 18)⟩]))))
/-- slices.IndexFunc[[][]bool,[]bool]; results .tmp 4 -/
noncomputable def r61 : RC := (.seq (.ops [⟨some 4, none, none, false, .mov (.v (.int .i64 0))⟩]) (.seq (.seq (.ops [⟨some 6, none, none, false, .mov (.t 0)⟩,
  ⟨some 7, none, none, false, .lenL (.t 6)⟩,
  ⟨some 8, none, none, false, .mov (.v (.int .i64 0))⟩]) (.block 0 (.loop r61_l0))) (.seq (.ops [⟨some 4, none, none, false, .mov (.v (.int .i64 (-1)))⟩]) .ret)))
theorem k61 : fnRC 61 = some ([.tmp 4], r61) := by kernel_rfl

noncomputable def r62_l0 : RC := (.seq (.ops [⟨some 17, none, none, false, .bin .lss 3 false (.t 16) (.t 15)⟩]) (.seq (.cond (.t 17) .skip (.exit 2)) (.seq (.block 3 (.seq (.ops [⟨some 18, none, none, false, .mov (.t 16)⟩,
  ⟨some 19, none, none, false, .ixa 1 (.t 14) (.t 16)⟩,
  ⟨some 20, none, none, false, .ld1 (.t 19)⟩,
  ⟨some 5, none, none, false, .mov (.t 18)⟩,
  ⟨some 6, none, none, false, .mov (.t 20)⟩]) (.seq (.ops [⟨some 21, none, none, false, .mov (.t 6)⟩,
  ⟨some 22, none, none, false, .mov (.t 3)⟩,
  ⟨some 23, none, none, false, .ixa 1 (.t 21) (.t 22)⟩,
  ⟨some 24, none, none, false, .ld1 (.t 23)⟩]) (.cond (.t 24) (.ops [⟨some 25, none, none, false, .mov (.t 4)⟩,
  ⟨some 26, none, none, false, .mov (.t 5)⟩,
  ⟨some 27, none, none, false, .bin .shl 63 true (.v (.int .u16 1)) (.t 26)⟩,
  ⟨some 28, none, none, false, .bin .or 63 false (.t 25) (.t 27)⟩,
  ⟨some 4, none, none, false, .mov (.t 28)⟩]) .skip)))) (.ops [⟨some 29, none, none, false, .bin .add 3 true (.t 16) (.v (.int .i64 1))⟩,
  ⟨some 16, none, none, false, .mov (.t 29)⟩]))))
noncomputable def r62_l1 : RC := (.seq (.ops [⟨some 12, none, none, false, .bin .lss 3 false (.t 11) (.t 10)⟩]) (.seq (.cond (.t 12) .skip (.exit 0)) (.seq (.block 1 (.seq (.ops [⟨some 13, none, none, false, .mov (.t 11)⟩,
  ⟨some 3, none, none, false, .mov (.t 13)⟩]) (.seq (.ops [⟨some 4, none, none, false, .mov (.v (.int .u16 0))⟩]) (.seq (.seq (.ops [⟨some 14, none, none, false, .ld1 (.t 1)⟩,
  ⟨some 15, none, none, false, .lenL (.t 14)⟩,
  ⟨some 16, none, none, false, .mov (.v (.int .i64 0))⟩]) (.block 2 (.loop r62_l0))) (.seq (.ops [⟨some 30, none, none, false, .mov (.t 0)⟩,
  ⟨some 31, none, none, false, .mov (.t 4)⟩,
  ⟨some 32, none, none, false, .callv (.t 30) [(.t 31)]⟩,
  ⟨some 33, none, none, false, .un .not (.t 32)⟩]) (.cond (.t 33) .ret .skip)))))) (.ops [⟨some 34, none, none, false, .bin .add 3 true (.t 11) (.v (.int .i64 1))⟩,
  ⟨some 11, none, none, false, .mov (.t 34)⟩]))))
/-- strobe/probe.columns$1; results  -/
noncomputable def r62 : RC := (.seq (.ops [⟨some 7, none, none, false, .ld1 (.t 1)⟩,
  ⟨some 8, none, none, false, .ixa 1 (.t 7) (.v (.int .i64 0))⟩,
  ⟨some 9, none, none, false, .ld1 (.t 8)⟩,
  ⟨some 10, none, none, false, .lenL (.t 9)⟩,
  ⟨some 11, none, none, false, .mov (.v (.int .i64 0))⟩]) (.block 0 (.loop r62_l1)))
theorem k62 : fnRC 62 = some ([], r62) := by kernel_rfl

noncomputable def r63_l0 : RC := (.seq (.ops [⟨some 9, none, none, false, .bin .lss 3 false (.t 8) (.t 7)⟩]) (.seq (.cond (.t 9) .skip (.exit 0)) (.seq (.block 1 (.seq (.ops [⟨some 10, none, none, false, .mov (.t 8)⟩,
  ⟨some 5, none, none, false, .mov (.t 10)⟩]) (.seq (.ops [⟨some 11, none, none, false, .mov (.t 1)⟩,
  ⟨some 12, none, none, false, .mov (.t 0)⟩,
  ⟨some 13, none, none, false, .mov (.t 5)⟩,
  ⟨some 14, none, none, false, .ixa 1 (.t 12) (.t 13)⟩,
  ⟨some 15, none, none, false, .ld1 (.t 14)⟩,
  ⟨some 16, none, none, false, .callv (.t 11) [(.t 15)]⟩]) (.cond (.t 16) (.seq (.ops [⟨some 17, none, none, false, .mov (.t 5)⟩,
  ⟨some 4, none, none, false, .mov (.t 17)⟩]) .ret) .skip)))) (.ops [⟨some 18, none, none, false, .bin .add 3 true (.t 8) (.v (.int .i64 1))⟩,
  ⟨some 8, none, none, false, .mov (.t 18)⟩]))))
/-- slices.IndexFunc[[]uint16,uint16]; results .tmp 4 -/
noncomputable def r63 : RC := (.seq (.ops [⟨some 4, none, none, false, .mov (.v (.int .i64 0))⟩]) (.seq (.seq (.ops [⟨some 6, none, none, false, .mov (.t 0)⟩,
  ⟨some 7, none, none, false, .lenL (.t 6)⟩,
  ⟨some 8, none, none, false, .mov (.v (.int .i64 0))⟩]) (.block 0 (.loop r63_l0))) (.seq (.ops [⟨some 4, none, none, false, .mov (.v (.int .i64 (-1)))⟩]) .ret)))
theorem k63 : fnRC 63 = some ([.tmp 4], r63) := by kernel_rfl

end Go.Am
