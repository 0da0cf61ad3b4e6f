/- A part of the proof of a statement of this seat: the machine on which the program is read, and what it computes; for every input. -/
import Derived.Test.YtkmaeondbkpajaaGreatDoorT05
set_option linter.all false
set_option linter.all false
namespace Go.Am
open Go
variable [MaxLen]
set_option maxRecDepth 100000
set_option maxHeartbeats 8000000
/-! # Sources: resolved code (printed) -/
noncomputable def q1009_0 : Code := rawAt 9 0
noncomputable def q1009_1 : Code := rawAt 9 1
theorem d1009_1 : rcDrc U q1009_1 = some (8, [(⟨some 35, none, none, false, .bld [(.int .i64 0), .nils] []⟩, none),
  (⟨some 36, none, none, false, .ld1 (.t 5)⟩, some (0, 1)),
  (⟨some 37, none, none, false, .raw (.nilCheck (.tmp 36))⟩, none),
  (⟨some 38, none, none, false, .fa 1 (.t 37)⟩, none),
  (⟨some 39, none, none, false, .ld1 (.t 38)⟩, some (0, 1)),
  (⟨none, none, none, true, .st 2 (.t 2) (.t 35)⟩, none),
  (⟨some 3, none, none, false, .mov (.t 39)⟩, none),
  (⟨some 4, none, none, false, .mov (.v (.int .i64 25))⟩, none)]) := by kernel_rfl
/-- strobe/trigger.Parse; results .cell 2 25,.tmp 3,.tmp 4 -/
noncomputable def r1009 : RC := (.seq (.ops [⟨some 2, none, none, false, .al [(.int .i64 0), .nils] 25⟩,
  ⟨some 3, none, none, false, .mov (.v (.int .i64 0))⟩,
  ⟨some 4, none, none, false, .mov (.v (.int .i64 0))⟩]) (.seq (.seq (.ops [⟨some 9, none, none, false, .mov (.t 0)⟩,
  ⟨some 10, none, none, false, .lenS (.t 9)⟩,
  ⟨some 11, none, none, false, .bin .gtr 3 true (.t 10) (.v (.int .i64 4096))⟩]) (.cond (.t 11) (.seq (.ops [⟨some 12, none, none, false, .bld [(.int .i64 0), .nils] []⟩,
  ⟨none, none, none, false, .st 2 (.t 2) (.t 12)⟩,
  ⟨some 3, none, none, false, .mov (.v (.int .i64 0))⟩,
  ⟨some 4, none, none, false, .mov (.v (.int .i64 26))⟩]) .ret) .skip)) (.seq (.ops [⟨some 13, none, none, false, .bld [.nils, (.int .i64 0)] [(1, 1, (.v (.int .i64 (-1))))]⟩,
  ⟨some 14, none, none, false, .box 89 (.t 13)⟩,
  ⟨some 5, none, none, false, .al [.nilp] 86⟩,
  ⟨none, none, none, false, .st 1 (.t 5) (.t 14)⟩]) (.seq (.seq (.ops [⟨some 15, none, none, false, .mov (.t 0)⟩,
  ⟨some 16, none, none, false, .call 45 [(.t 15)]⟩]) (.block 0 (.raw q1009_0))) (.seq (.ops [⟨some 28, none, none, false, .ld1 (.t 5)⟩,
  ⟨some 29, none, none, false, .call 46 [(.t 28)]⟩,
  ⟨some 7, none, none, false, .al [(.int .i64 0), .nils] 25⟩,
  ⟨none, none, none, false, .st 2 (.t 7) (.t 29)⟩]) (.seq (.seq (.ops [⟨some 30, none, none, false, .ld1 (.t 5)⟩,
  ⟨some 31, none, none, false, .raw (.nilCheck (.tmp 30))⟩,
  ⟨some 32, none, none, false, .fa 1 (.t 31)⟩,
  ⟨some 33, none, none, false, .ld1 (.t 32)⟩,
  ⟨some 34, none, none, false, .bin .geq 3 true (.t 33) (.v (.int .i64 0))⟩]) (.cond (.t 34) (.seq (.raw q1009_1) .ret) .skip)) (.seq (.seq (.ops [⟨some 40, none, none, false, .ldn 2 (.t 7)⟩,
  ⟨some 41, none, none, false, .call 47 [(.t 40)]⟩,
  ⟨some 8, none, none, false, .mov (.t 41)⟩]) (.seq (.ops [⟨some 42, none, none, false, .mov (.t 8)⟩,
  ⟨some 43, none, none, false, .bin .neq 26 true (.t 42) (.v (.int .i64 0))⟩]) (.cond (.t 43) (.seq (.ops [⟨some 44, none, none, false, .bld [(.int .i64 0), .nils] []⟩,
  ⟨some 45, none, none, false, .mov (.t 8)⟩,
  ⟨none, none, none, false, .st 2 (.t 2) (.t 44)⟩,
  ⟨some 3, none, none, false, .mov (.v (.int .i64 0))⟩,
  ⟨some 4, none, none, false, .mov (.t 45)⟩]) .ret) .skip))) (.seq (.ops [⟨some 46, none, none, false, .ldn 2 (.t 7)⟩,
  ⟨none, none, none, false, .st 2 (.t 2) (.t 46)⟩,
  ⟨some 3, none, none, false, .mov (.v (.int .i64 0))⟩,
  ⟨some 4, none, none, false, .mov (.v (.int .i64 0))⟩]) .ret))))))))
theorem k1009 : fnRC 9 = some ([.cell 2 25, .tmp 3, .tmp 4], r1009) := by kernel_rfl

/-- strobe/trigger.tokens; results .tmp 2 -/
noncomputable def r1045 : RC := (.seq (.ops [⟨some 1, none, none, false, .box 9 (.t 0)⟩,
  ⟨some 2, none, none, false, .mov (.v .nilfn)⟩]) (.seq (.ops [⟨some 3, none, none, false, .mkf 104 [] [(.t 1)]⟩,
  ⟨some 2, none, none, false, .mov (.t 3)⟩]) .ret))
theorem k1045 : fnRC 45 = some ([.tmp 2], r1045) := by kernel_rfl

noncomputable def r1046_l0 : RC := (.seq (.seq (.ops [⟨some 15, none, none, false, .mov (.t 0)⟩,
  ⟨some 16, none, none, false, .raw (.nilCheck (.tmp 15))⟩,
  ⟨some 17, none, none, false, .fa 1 (.t 16)⟩,
  ⟨some 18, none, none, false, .ld1 (.t 17)⟩,
  ⟨some 19, none, none, false, .bin .lss 3 true (.t 18) (.v (.int .i64 0))⟩]) (.cond (.t 19) .skip (.exit 0))) (.block 1 (.seq (.ops [⟨some 20, none, none, false, .mov (.t 0)⟩,
  ⟨some 21, none, none, false, .call 106 [(.t 20), (.v (.str [59]))]⟩]) (.seq (.seq (.ops [⟨some 22, none, none, false, .mov (.t 0)⟩,
  ⟨some 23, none, none, false, .call 108 [(.t 22)]⟩,
  ⟨some 24, none, none, false, .bin .eql 9 true (.t 23) (.v (.str []))⟩,
  ⟨some 25, none, none, false, .mov (.t 24)⟩,
  ⟨some 26, some (25, false), none, false, .mov (.t 0)⟩,
  ⟨some 27, some (25, false), none, false, .raw (.nilCheck (.tmp 26))⟩,
  ⟨some 28, some (25, false), none, false, .fa 1 (.t 27)⟩,
  ⟨some 29, some (25, false), none, false, .ld1 (.t 28)⟩,
  ⟨some 30, some (25, false), none, false, .bin .geq 3 true (.t 29) (.v (.int .i64 0))⟩,
  ⟨some 31, none, none, false, .pick (.t 25) (.v (.bool true)) (.t 30)⟩]) (.cond (.t 31) (.exit 0) .skip)) (.seq (.ops [⟨some 32, none, none, false, .mov (.t 0)⟩,
  ⟨some 33, none, none, false, .call 109 [(.t 32)]⟩,
  ⟨some 34, none, none, false, .bld [(.str []), (.int .i64 0), (.int .i64 0), (.int .i64 0), (.int .i64 0), (.str []), .nils, (.int .i64 0), (.int .i64 0)] [(0, 7, (.t 33))]⟩,
  ⟨some 4, none, none, false, .al [(.str []), (.int .i64 0), (.int .i64 0), (.int .i64 0), (.int .i64 0), (.str []), .nils, (.int .i64 0), (.int .i64 0)] 113⟩,
  ⟨none, none, none, false, .st 9 (.t 4) (.t 34)⟩]) (.seq (.ops [⟨some 35, none, none, false, .mov (.t 0)⟩,
  ⟨some 36, none, none, false, .call 110 [(.t 35), (.v (.str [116, 105, 109, 101, 115])), (.v (.int .i64 1))]⟩,
  ⟨some 37, none, none, false, .fa 7 (.t 4)⟩,
  ⟨none, none, none, false, .st 1 (.t 37) (.t 36)⟩]) (.seq (.ops [⟨some 38, none, none, false, .mov (.t 0)⟩,
  ⟨some 39, none, none, false, .call 110 [(.t 38), (.v (.str [119, 105, 116, 104, 105, 110])), (.v (.int .i64 0))]⟩,
  ⟨some 40, none, none, false, .fa 8 (.t 4)⟩,
  ⟨none, none, none, false, .st 1 (.t 40) (.t 39)⟩]) (.ops [⟨some 41, none, none, false, .fa 1 (.t 3)⟩,
  ⟨some 42, none, none, false, .ld1 (.t 41)⟩,
  ⟨some 43, none, none, false, .ldn 9 (.t 4)⟩,
  ⟨some 44, none, none, false, .bsl 113 9 1 [(.str []), (.int .i64 0), (.int .i64 0), (.int .i64 0), (.int .i64 0), (.str []), .nils, (.int .i64 0), (.int .i64 0)] [(0, 9, (.t 43))]⟩,
  ⟨some 45, none, none, false, .app 113 9 104 (.t 42) (.t 44)⟩,
  ⟨some 46, none, none, false, .fa 1 (.t 3)⟩,
  ⟨none, none, none, false, .st 1 (.t 46) (.t 45)⟩]))))))))
/-- (*strobe/trigger.reader).program; results .cell 2 25 -/
noncomputable def r1046 : RC := (.seq (.ops [⟨some 2, none, none, false, .al [(.int .i64 0), .nils] 25⟩]) (.seq (.ops [⟨some 3, none, none, false, .al [(.int .i64 0), .nils] 25⟩]) (.seq (.ops [⟨some 5, none, none, false, .mov (.t 0)⟩,
  ⟨some 6, none, none, false, .call 106 [(.t 5), (.v (.str [108, 105, 110, 101, 115]))]⟩]) (.seq (.seq (.ops [⟨some 7, none, none, false, .mov (.t 0)⟩,
  ⟨some 8, none, none, false, .raw (.nilCheck (.tmp 7))⟩,
  ⟨some 9, none, none, false, .fa 1 (.t 8)⟩,
  ⟨some 10, none, none, false, .ld1 (.t 9)⟩,
  ⟨some 11, none, none, false, .bin .lss 3 true (.t 10) (.v (.int .i64 0))⟩]) (.cond (.t 11) (.ops [⟨some 12, none, none, false, .mov (.t 0)⟩,
  ⟨some 13, none, none, false, .call 107 [(.t 12)]⟩,
  ⟨some 14, none, none, false, .fa 0 (.t 3)⟩,
  ⟨none, none, none, false, .st 1 (.t 14) (.t 13)⟩]) .skip)) (.seq (.block 0 (.loop r1046_l0)) (.seq (.ops [⟨some 47, none, none, false, .ldn 2 (.t 3)⟩,
  ⟨none, none, none, false, .st 2 (.t 2) (.t 47)⟩]) .ret))))))
theorem k1046 : fnRC 46 = some ([.cell 2 25], r1046) := by kernel_rfl

noncomputable def r1053_l0 : RC := (.seq (.seq (.ops [⟨some 55, none, none, false, .mov (.t 5)⟩,
  ⟨some 56, none, none, false, .fa 6 (.t 2)⟩,
  ⟨some 57, none, none, false, .ld1 (.t 56)⟩,
  ⟨some 58, none, none, false, .lenL (.t 57)⟩,
  ⟨some 59, none, none, false, .bin .lss 3 false (.t 55) (.t 58)⟩]) (.cond (.t 59) .skip (.exit 0))) (.seq (.block 1 (.seq (.drw 12 [⟨some 62, none, none, false, .fa 6 (.t 2)⟩,
  ⟨some 63, none, none, false, .ld1 (.t 62)⟩,
  ⟨some 64, none, none, false, .mov (.t 5)⟩,
  ⟨some 65, none, none, false, .ixa 7 (.t 63) (.t 64)⟩,
  ⟨some 66, none, none, false, .ldn 7 (.t 65)⟩,
  ⟨some 67, none, none, false, .fa 6 (.t 3)⟩,
  ⟨some 68, none, none, false, .ld1 (.t 67)⟩,
  ⟨some 69, none, none, false, .mov (.t 5)⟩,
  ⟨some 70, none, none, false, .ixa 7 (.t 68) (.t 69)⟩,
  ⟨some 71, none, none, false, .ldn 7 (.t 70)⟩,
  ⟨some 72, none, none, false, .call 53 [(.t 66), (.t 71)]⟩,
  ⟨some 73, none, none, false, .un .not (.t 72)⟩]) (.cond (.t 73) (.seq (.ops [⟨some 4, none, none, false, .mov (.v (.bool false))⟩]) .ret) .skip))) (.ops [⟨some 60, none, none, false, .mov (.t 5)⟩,
  ⟨some 61, none, none, false, .bin .add 3 true (.t 60) (.v (.int .i64 1))⟩,
  ⟨some 5, none, none, false, .mov (.t 61)⟩])))
/-- strobe/stroberef04.SameConds; results .tmp 4 -/
noncomputable def r1053 : RC := (.seq (.ops [⟨some 2, none, none, false, .box 106 (.t 0)⟩,
  ⟨some 3, none, none, false, .box 106 (.t 1)⟩,
  ⟨some 4, none, none, false, .mov (.v (.bool false))⟩]) (.seq (.seq (.ops [⟨some 6, none, none, false, .fa 0 (.t 2)⟩,
  ⟨some 7, none, none, false, .ld1 (.t 6)⟩,
  ⟨some 8, none, none, false, .fa 0 (.t 3)⟩,
  ⟨some 9, none, none, false, .ld1 (.t 8)⟩,
  ⟨some 10, none, none, false, .bin .neq 9 false (.t 7) (.t 9)⟩,
  ⟨some 11, none, none, false, .mov (.t 10)⟩,
  ⟨some 12, some (11, false), none, false, .fa 1 (.t 2)⟩,
  ⟨some 13, some (11, false), none, false, .ld1 (.t 12)⟩,
  ⟨some 14, some (11, false), none, false, .fa 1 (.t 3)⟩,
  ⟨some 15, some (11, false), none, false, .ld1 (.t 14)⟩,
  ⟨some 16, some (11, false), none, false, .bin .neq 3 false (.t 13) (.t 15)⟩,
  ⟨some 17, none, none, false, .pick (.t 11) (.v (.bool true)) (.t 16)⟩,
  ⟨some 18, none, none, false, .mov (.t 17)⟩,
  ⟨some 19, some (18, false), none, false, .fa 2 (.t 2)⟩,
  ⟨some 20, some (18, false), none, false, .ld1 (.t 19)⟩,
  ⟨some 21, some (18, false), none, false, .fa 2 (.t 3)⟩,
  ⟨some 22, some (18, false), none, false, .ld1 (.t 21)⟩,
  ⟨some 23, some (18, false), none, false, .bin .neq 3 false (.t 20) (.t 22)⟩,
  ⟨some 24, none, none, false, .pick (.t 18) (.v (.bool true)) (.t 23)⟩,
  ⟨some 25, none, none, false, .mov (.t 24)⟩,
  ⟨some 26, some (25, false), none, false, .fa 3 (.t 2)⟩,
  ⟨some 27, some (25, false), none, false, .ld1 (.t 26)⟩,
  ⟨some 28, some (25, false), none, false, .fa 3 (.t 3)⟩,
  ⟨some 29, some (25, false), none, false, .ld1 (.t 28)⟩,
  ⟨some 30, some (25, false), none, false, .bin .neq 3 false (.t 27) (.t 29)⟩,
  ⟨some 31, none, none, false, .pick (.t 25) (.v (.bool true)) (.t 30)⟩,
  ⟨some 32, none, none, false, .mov (.t 31)⟩,
  ⟨some 33, some (32, false), none, false, .fa 4 (.t 2)⟩,
  ⟨some 34, some (32, false), none, false, .ld1 (.t 33)⟩,
  ⟨some 35, some (32, false), none, false, .fa 4 (.t 3)⟩,
  ⟨some 36, some (32, false), none, false, .ld1 (.t 35)⟩,
  ⟨some 37, some (32, false), none, false, .bin .neq 3 false (.t 34) (.t 36)⟩,
  ⟨some 38, none, none, false, .pick (.t 32) (.v (.bool true)) (.t 37)⟩,
  ⟨some 39, none, none, false, .mov (.t 38)⟩,
  ⟨some 40, some (39, false), none, false, .fa 5 (.t 2)⟩,
  ⟨some 41, some (39, false), none, false, .ld1 (.t 40)⟩,
  ⟨some 42, some (39, false), none, false, .fa 5 (.t 3)⟩,
  ⟨some 43, some (39, false), none, false, .ld1 (.t 42)⟩,
  ⟨some 44, some (39, false), none, false, .bin .neq 9 false (.t 41) (.t 43)⟩,
  ⟨some 45, none, none, false, .pick (.t 39) (.v (.bool true)) (.t 44)⟩,
  ⟨some 46, none, none, false, .mov (.t 45)⟩,
  ⟨some 47, some (46, false), none, false, .fa 6 (.t 2)⟩,
  ⟨some 48, some (46, false), none, false, .ld1 (.t 47)⟩,
  ⟨some 49, some (46, false), none, false, .lenL (.t 48)⟩,
  ⟨some 50, some (46, false), none, false, .fa 6 (.t 3)⟩,
  ⟨some 51, some (46, false), none, false, .ld1 (.t 50)⟩,
  ⟨some 52, some (46, false), none, false, .lenL (.t 51)⟩,
  ⟨some 53, some (46, false), none, false, .bin .neq 3 false (.t 49) (.t 52)⟩,
  ⟨some 54, none, none, false, .pick (.t 46) (.v (.bool true)) (.t 53)⟩]) (.cond (.t 54) (.seq (.ops [⟨some 4, none, none, false, .mov (.v (.bool false))⟩]) .ret) .skip)) (.seq (.seq (.ops [⟨some 5, none, none, false, .mov (.v (.int .i64 0))⟩]) (.block 0 (.loop r1053_l0))) (.seq (.ops [⟨some 4, none, none, false, .mov (.v (.bool true))⟩]) .ret))))
theorem k1053 : fnRC 53 = some ([.tmp 4], r1053) := by kernel_rfl

noncomputable def r1054_l0 : RC := (.seq (.seq (.ops [⟨some 18, none, none, false, .mov (.t 4)⟩,
  ⟨some 19, none, none, false, .fa 6 (.t 1)⟩,
  ⟨some 20, none, none, false, .ld1 (.t 19)⟩,
  ⟨some 21, none, none, false, .lenL (.t 20)⟩,
  ⟨some 22, none, none, false, .bin .lss 3 false (.t 18) (.t 21)⟩]) (.cond (.t 22) .skip (.exit 0))) (.seq (.block 1 (.drw 12 [⟨some 25, none, none, false, .fa 6 (.t 3)⟩,
  ⟨some 26, none, none, false, .ld1 (.t 25)⟩,
  ⟨some 27, none, none, false, .fa 6 (.t 1)⟩,
  ⟨some 28, none, none, false, .ld1 (.t 27)⟩,
  ⟨some 29, none, none, false, .mov (.t 4)⟩,
  ⟨some 30, none, none, false, .ixa 7 (.t 28) (.t 29)⟩,
  ⟨some 31, none, none, false, .ldn 7 (.t 30)⟩,
  ⟨some 32, none, none, false, .call 54 [(.t 31)]⟩,
  ⟨some 33, none, some 8, false, .bsl 106 7 1 [(.str []), (.int .i64 0), (.int .i64 0), (.int .i64 0), (.int .i64 0), (.str []), .nils] [(0, 7, (.t 32))]⟩,
  ⟨some 34, none, none, true, .app 106 7 88 (.t 26) (.t 33)⟩,
  ⟨some 35, none, none, false, .fa 6 (.t 3)⟩,
  ⟨none, none, none, true, .st 1 (.t 35) (.t 34)⟩])) (.ops [⟨some 23, none, none, false, .mov (.t 4)⟩,
  ⟨some 24, none, none, false, .bin .add 3 true (.t 23) (.v (.int .i64 1))⟩,
  ⟨some 4, none, none, false, .mov (.t 24)⟩])))
/-- strobe/strobelaw04.cond; results .cell 2 106 -/
noncomputable def r1054 : RC := (.seq (.ops [⟨some 1, none, none, false, .box 78 (.t 0)⟩,
  ⟨some 2, none, none, false, .al [(.str []), (.int .i64 0), (.int .i64 0), (.int .i64 0), (.int .i64 0), (.str []), .nils] 106⟩]) (.seq (.ops [⟨some 5, none, none, false, .fa 0 (.t 1)⟩,
  ⟨some 6, none, none, false, .ld1 (.t 5)⟩,
  ⟨some 7, none, none, false, .fa 1 (.t 1)⟩,
  ⟨some 8, none, none, false, .ld1 (.t 7)⟩,
  ⟨some 9, none, none, false, .fa 2 (.t 1)⟩,
  ⟨some 10, none, none, false, .ld1 (.t 9)⟩,
  ⟨some 11, none, none, false, .fa 3 (.t 1)⟩,
  ⟨some 12, none, none, false, .ld1 (.t 11)⟩,
  ⟨some 13, none, none, false, .fa 4 (.t 1)⟩,
  ⟨some 14, none, none, false, .ld1 (.t 13)⟩,
  ⟨some 15, none, none, false, .fa 5 (.t 1)⟩,
  ⟨some 16, none, none, false, .ld1 (.t 15)⟩,
  ⟨some 17, none, none, false, .bld [(.str []), (.int .i64 0), (.int .i64 0), (.int .i64 0), (.int .i64 0), (.str []), .nils] [(0, 1, (.t 6)), (1, 1, (.t 8)), (2, 1, (.t 10)), (3, 1, (.t 12)), (4, 1, (.t 14)), (5, 1, (.t 16))]⟩,
  ⟨some 3, none, none, false, .al [(.str []), (.int .i64 0), (.int .i64 0), (.int .i64 0), (.int .i64 0), (.str []), .nils] 106⟩,
  ⟨none, none, none, false, .st 7 (.t 3) (.t 17)⟩]) (.seq (.seq (.ops [⟨some 4, none, none, false, .mov (.v (.int .i64 0))⟩]) (.block 0 (.loop r1054_l0))) (.seq (.ops [⟨some 36, none, none, false, .ldn 7 (.t 3)⟩,
  ⟨none, none, none, false, .st 7 (.t 2) (.t 36)⟩]) .ret))))
theorem k1054 : fnRC 54 = some ([.cell 2 106], r1054) := by kernel_rfl

noncomputable def r1011_l0 : RC := (.seq (.seq (.ops [⟨some 20, none, none, false, .mov (.t 5)⟩,
  ⟨some 21, none, none, false, .fa 1 (.t 2)⟩,
  ⟨some 22, none, none, false, .ld1 (.t 21)⟩,
  ⟨some 23, none, none, false, .lenL (.t 22)⟩,
  ⟨some 24, none, none, false, .bin .lss 3 false (.t 20) (.t 23)⟩]) (.cond (.t 24) .skip (.exit 0))) (.seq (.block 1 (.seq (.drw 44 [⟨some 27, none, none, false, .fa 1 (.t 2)⟩,
  ⟨some 28, none, none, false, .ld1 (.t 27)⟩,
  ⟨some 29, none, none, false, .mov (.t 5)⟩,
  ⟨some 30, none, none, false, .ixa 9 (.t 28) (.t 29)⟩,
  ⟨some 31, none, none, false, .fa 7 (.t 30)⟩,
  ⟨some 32, none, none, false, .ld1 (.t 31)⟩,
  ⟨some 33, none, none, false, .fa 1 (.t 3)⟩,
  ⟨some 34, none, none, false, .ld1 (.t 33)⟩,
  ⟨some 35, none, none, false, .mov (.t 5)⟩,
  ⟨some 36, none, none, false, .ixa 9 (.t 34) (.t 35)⟩,
  ⟨some 37, none, none, false, .fa 7 (.t 36)⟩,
  ⟨some 38, none, none, false, .ld1 (.t 37)⟩,
  ⟨some 39, none, none, false, .bin .neq 3 false (.t 32) (.t 38)⟩,
  ⟨some 40, none, none, false, .mov (.t 39)⟩,
  ⟨some 41, some (40, false), none, false, .fa 1 (.t 2)⟩,
  ⟨some 42, some (40, false), none, false, .ld1 (.t 41)⟩,
  ⟨some 43, some (40, false), none, false, .mov (.t 5)⟩,
  ⟨some 44, some (40, false), none, false, .ixa 9 (.t 42) (.t 43)⟩,
  ⟨some 45, some (40, false), none, false, .fa 8 (.t 44)⟩,
  ⟨some 46, some (40, false), none, false, .ld1 (.t 45)⟩,
  ⟨some 47, some (40, false), none, false, .fa 1 (.t 3)⟩,
  ⟨some 48, some (40, false), none, false, .ld1 (.t 47)⟩,
  ⟨some 49, some (40, false), none, false, .mov (.t 5)⟩,
  ⟨some 50, some (40, false), none, false, .ixa 9 (.t 48) (.t 49)⟩,
  ⟨some 51, some (40, false), none, false, .fa 8 (.t 50)⟩,
  ⟨some 52, some (40, false), none, false, .ld1 (.t 51)⟩,
  ⟨some 53, some (40, false), none, false, .bin .neq 3 false (.t 46) (.t 52)⟩,
  ⟨some 54, none, none, false, .pick (.t 40) (.v (.bool true)) (.t 53)⟩,
  ⟨some 55, none, none, false, .mov (.t 54)⟩,
  ⟨some 56, some (55, false), none, false, .fa 1 (.t 2)⟩,
  ⟨some 57, some (55, false), none, false, .ld1 (.t 56)⟩,
  ⟨some 58, some (55, false), none, false, .mov (.t 5)⟩,
  ⟨some 59, some (55, false), none, false, .ixa 9 (.t 57) (.t 58)⟩,
  ⟨some 60, some (55, false), none, false, .fa 0 (.t 59)⟩,
  ⟨some 61, some (55, false), none, false, .ldn 7 (.t 60)⟩,
  ⟨some 62, some (55, false), none, false, .fa 1 (.t 3)⟩,
  ⟨some 63, some (55, false), none, false, .ld1 (.t 62)⟩,
  ⟨some 64, some (55, false), none, false, .mov (.t 5)⟩,
  ⟨some 65, some (55, false), none, false, .ixa 9 (.t 63) (.t 64)⟩,
  ⟨some 66, some (55, false), none, false, .fa 0 (.t 65)⟩,
  ⟨some 67, some (55, false), none, false, .ldn 7 (.t 66)⟩,
  ⟨some 68, some (55, false), none, false, .call 53 [(.t 61), (.t 67)]⟩,
  ⟨some 69, some (55, false), none, false, .un .not (.t 68)⟩,
  ⟨some 70, none, none, false, .pick (.t 55) (.v (.bool true)) (.t 69)⟩]) (.cond (.t 70) (.seq (.ops [⟨some 4, none, none, false, .mov (.v (.bool false))⟩]) .ret) .skip))) (.ops [⟨some 25, none, none, false, .mov (.t 5)⟩,
  ⟨some 26, none, none, false, .bin .add 3 true (.t 25) (.v (.int .i64 1))⟩,
  ⟨some 5, none, none, false, .mov (.t 26)⟩])))
/-- strobe/stroberef04.SamePrograms; results .tmp 4 -/
noncomputable def r1011 : RC := (.seq (.ops [⟨some 2, none, none, false, .box 31 (.t 0)⟩,
  ⟨some 3, none, none, false, .box 31 (.t 1)⟩,
  ⟨some 4, none, none, false, .mov (.v (.bool false))⟩]) (.seq (.seq (.ops [⟨some 6, none, none, false, .fa 0 (.t 2)⟩,
  ⟨some 7, none, none, false, .ld1 (.t 6)⟩,
  ⟨some 8, none, none, false, .fa 0 (.t 3)⟩,
  ⟨some 9, none, none, false, .ld1 (.t 8)⟩,
  ⟨some 10, none, none, false, .bin .neq 3 false (.t 7) (.t 9)⟩,
  ⟨some 11, none, none, false, .mov (.t 10)⟩,
  ⟨some 12, some (11, false), none, false, .fa 1 (.t 2)⟩,
  ⟨some 13, some (11, false), none, false, .ld1 (.t 12)⟩,
  ⟨some 14, some (11, false), none, false, .lenL (.t 13)⟩,
  ⟨some 15, some (11, false), none, false, .fa 1 (.t 3)⟩,
  ⟨some 16, some (11, false), none, false, .ld1 (.t 15)⟩,
  ⟨some 17, some (11, false), none, false, .lenL (.t 16)⟩,
  ⟨some 18, some (11, false), none, false, .bin .neq 3 false (.t 14) (.t 17)⟩,
  ⟨some 19, none, none, false, .pick (.t 11) (.v (.bool true)) (.t 18)⟩]) (.cond (.t 19) (.seq (.ops [⟨some 4, none, none, false, .mov (.v (.bool false))⟩]) .ret) .skip)) (.seq (.seq (.ops [⟨some 5, none, none, false, .mov (.v (.int .i64 0))⟩]) (.block 0 (.loop r1011_l0))) (.seq (.ops [⟨some 4, none, none, false, .mov (.v (.bool true))⟩]) .ret))))
theorem k1011 : fnRC 11 = some ([.tmp 4], r1011) := by kernel_rfl

noncomputable def r1012_l0 : RC := (.seq (.seq (.ops [⟨some 8, none, none, false, .mov (.t 4)⟩,
  ⟨some 9, none, none, false, .fa 1 (.t 1)⟩,
  ⟨some 10, none, none, false, .ld1 (.t 9)⟩,
  ⟨some 11, none, none, false, .lenL (.t 10)⟩,
  ⟨some 12, none, none, false, .bin .lss 3 false (.t 8) (.t 11)⟩]) (.cond (.t 12) .skip (.exit 0))) (.seq (.block 1 (.drw 26 [⟨some 15, none, none, false, .fa 1 (.t 3)⟩,
  ⟨some 16, none, none, false, .ld1 (.t 15)⟩,
  ⟨some 17, none, none, false, .fa 1 (.t 1)⟩,
  ⟨some 18, none, none, false, .ld1 (.t 17)⟩,
  ⟨some 19, none, none, false, .mov (.t 4)⟩,
  ⟨some 20, none, none, false, .ixa 9 (.t 18) (.t 19)⟩,
  ⟨some 21, none, none, false, .fa 0 (.t 20)⟩,
  ⟨some 22, none, none, false, .ldn 7 (.t 21)⟩,
  ⟨some 23, none, none, false, .call 54 [(.t 22)]⟩,
  ⟨some 24, none, none, false, .fa 1 (.t 1)⟩,
  ⟨some 25, none, none, false, .ld1 (.t 24)⟩,
  ⟨some 26, none, none, false, .mov (.t 4)⟩,
  ⟨some 27, none, none, false, .ixa 9 (.t 25) (.t 26)⟩,
  ⟨some 28, none, none, false, .fa 7 (.t 27)⟩,
  ⟨some 29, none, none, false, .ld1 (.t 28)⟩,
  ⟨some 30, none, none, false, .fa 1 (.t 1)⟩,
  ⟨some 31, none, none, false, .ld1 (.t 30)⟩,
  ⟨some 32, none, none, false, .mov (.t 4)⟩,
  ⟨some 33, none, none, false, .ixa 9 (.t 31) (.t 32)⟩,
  ⟨some 34, none, none, false, .fa 8 (.t 33)⟩,
  ⟨some 35, none, none, false, .ld1 (.t 34)⟩,
  ⟨some 36, none, none, false, .bld [(.str []), (.int .i64 0), (.int .i64 0), (.int .i64 0), (.int .i64 0), (.str []), .nils, (.int .i64 0), (.int .i64 0)] [(0, 7, (.t 23)), (7, 1, (.t 29)), (8, 1, (.t 35))]⟩,
  ⟨some 37, none, some 22, false, .bsl 109 9 1 [(.str []), (.int .i64 0), (.int .i64 0), (.int .i64 0), (.int .i64 0), (.str []), .nils, (.int .i64 0), (.int .i64 0)] [(0, 9, (.t 36))]⟩,
  ⟨some 38, none, none, true, .app 109 9 104 (.t 16) (.t 37)⟩,
  ⟨some 39, none, none, false, .fa 1 (.t 3)⟩,
  ⟨none, none, none, true, .st 1 (.t 39) (.t 38)⟩])) (.ops [⟨some 13, none, none, false, .mov (.t 4)⟩,
  ⟨some 14, none, none, false, .bin .add 3 true (.t 13) (.v (.int .i64 1))⟩,
  ⟨some 4, none, none, false, .mov (.t 14)⟩])))
/-- strobe/strobelaw04.own; results .cell 2 31 -/
noncomputable def r1012 : RC := (.seq (.ops [⟨some 1, none, none, false, .box 25 (.t 0)⟩,
  ⟨some 2, none, none, false, .al [(.int .i64 0), .nils] 31⟩]) (.seq (.ops [⟨some 5, none, none, false, .fa 0 (.t 1)⟩,
  ⟨some 6, none, none, false, .ld1 (.t 5)⟩,
  ⟨some 7, none, none, false, .bld [(.int .i64 0), .nils] [(0, 1, (.t 6))]⟩,
  ⟨some 3, none, none, false, .al [(.int .i64 0), .nils] 31⟩,
  ⟨none, none, none, false, .st 2 (.t 3) (.t 7)⟩]) (.seq (.seq (.ops [⟨some 4, none, none, false, .mov (.v (.int .i64 0))⟩]) (.block 0 (.loop r1012_l0))) (.seq (.ops [⟨some 40, none, none, false, .ldn 2 (.t 3)⟩,
  ⟨none, none, none, false, .st 2 (.t 2) (.t 40)⟩]) .ret))))
theorem k1012 : fnRC 12 = some ([.cell 2 31], r1012) := by kernel_rfl

noncomputable def r1104_l0 : RC := (.seq (.ops [⟨some 8, none, none, false, .raw (.next (.tmp 7) true)⟩,
  ⟨some 9, none, none, false, .ext (.t 8) 0⟩]) (.seq (.cond (.t 9) .skip (.exit 0)) (.block 1 (.seq (.ops [⟨some 10, none, none, false, .ext (.t 8) 1⟩,
  ⟨some 11, none, none, false, .ext (.t 8) 2⟩,
  ⟨some 4, none, none, false, .mov (.t 10)⟩,
  ⟨some 5, none, none, false, .mov (.t 11)⟩]) (.seq (.seq (.ops [⟨some 12, none, none, false, .mov (.t 5)⟩,
  ⟨some 13, none, none, false, .call 105 [(.t 12)]⟩]) (.cond (.t 13) (.seq (.seq (.ops [⟨some 14, none, none, false, .mov (.t 3)⟩,
  ⟨some 15, none, none, false, .bin .lss 3 true (.t 14) (.v (.int .i64 0))⟩]) (.cond (.t 15) (.ops [⟨some 16, none, none, false, .mov (.t 4)⟩,
  ⟨some 3, none, none, false, .mov (.t 16)⟩]) .skip)) (.exit 1)) .skip)) (.seq (.seq (.ops [⟨some 17, none, none, false, .mov (.t 3)⟩,
  ⟨some 18, none, none, false, .bin .geq 3 true (.t 17) (.v (.int .i64 0))⟩,
  ⟨some 19, none, none, false, .mov (.t 18)⟩,
  ⟨some 20, some (19, true), none, false, .mov (.t 0)⟩,
  ⟨some 21, some (19, true), none, false, .mov (.t 3)⟩,
  ⟨some 22, some (19, true), none, false, .ld1 (.t 1)⟩,
  ⟨some 23, some (19, true), none, false, .mov (.t 3)⟩,
  ⟨some 24, some (19, true), none, false, .mov (.t 4)⟩,
  ⟨some 25, some (19, true), none, false, .sls (.t 22) (some (.t 23)) (some (.t 24))⟩,
  ⟨some 26, some (19, true), none, false, .bld [(.int .i64 0), (.str [])] [(0, 1, (.t 21)), (1, 1, (.t 25))]⟩,
  ⟨some 27, some (19, true), none, false, .callv (.t 20) [(.t 26)]⟩,
  ⟨some 28, some (19, true), none, false, .un .not (.t 27)⟩,
  ⟨some 29, none, none, false, .pick (.t 19) (.t 28) (.v (.bool false))⟩]) (.cond (.t 29) .ret .skip)) (.seq (.ops [⟨some 3, none, none, false, .mov (.v (.int .i64 (-1)))⟩]) (.seq (.ops [⟨some 30, none, none, false, .mov (.t 5)⟩]) (.block 2 (.seq (.seq (.ops [⟨some 42, none, none, false, .bin .eql 21 true (.t 30) (.v (.int .i32 32))⟩,
  ⟨some 41, none, none, false, .mov (.t 42)⟩]) (.cond (.t 41) .skip (.ops [⟨some 43, none, none, false, .bin .eql 21 true (.t 30) (.v (.int .i32 10))⟩,
  ⟨some 41, none, none, false, .mov (.t 43)⟩]))) (.cond (.t 41) .skip (.seq (.ops [⟨some 31, none, none, false, .mov (.t 0)⟩,
  ⟨some 32, none, none, false, .mov (.t 4)⟩,
  ⟨some 33, none, none, false, .ld1 (.t 1)⟩,
  ⟨some 34, none, none, false, .mov (.t 4)⟩,
  ⟨some 35, none, none, false, .mov (.t 4)⟩,
  ⟨some 36, none, none, false, .bin .add 3 true (.t 35) (.v (.int .i64 1))⟩,
  ⟨some 37, none, none, false, .sls (.t 33) (some (.t 34)) (some (.t 36))⟩,
  ⟨some 38, none, none, false, .bld [(.int .i64 0), (.str [])] [(0, 1, (.t 32)), (1, 1, (.t 37))]⟩,
  ⟨some 39, none, none, false, .callv (.t 31) [(.t 38)]⟩,
  ⟨some 40, none, none, false, .un .not (.t 39)⟩]) (.cond (.t 40) .ret .skip)))))))))))))
/-- strobe/trigger.tokens$1; results  -/
noncomputable def r1104 : RC := (.seq (.ops [⟨some 3, none, none, false, .mov (.v (.int .i64 (-1)))⟩]) (.seq (.seq (.ops [⟨some 6, none, none, false, .ld1 (.t 1)⟩,
  ⟨some 7, none, none, false, .raw (.range 9 (.tmp 6))⟩]) (.block 0 (.loop r1104_l0))) (.seq (.seq (.ops [⟨some 44, none, none, false, .mov (.t 3)⟩,
  ⟨some 45, none, none, false, .bin .geq 3 true (.t 44) (.v (.int .i64 0))⟩,
  ⟨some 46, none, none, false, .mov (.t 45)⟩,
  ⟨some 47, some (46, true), none, false, .mov (.t 0)⟩,
  ⟨some 48, some (46, true), none, false, .mov (.t 3)⟩,
  ⟨some 49, some (46, true), none, false, .ld1 (.t 1)⟩,
  ⟨some 50, some (46, true), none, false, .mov (.t 3)⟩,
  ⟨some 51, some (46, true), none, false, .sls (.t 49) (some (.t 50)) none⟩,
  ⟨some 52, some (46, true), none, false, .bld [(.int .i64 0), (.str [])] [(0, 1, (.t 48)), (1, 1, (.t 51))]⟩,
  ⟨some 53, some (46, true), none, false, .callv (.t 47) [(.t 52)]⟩,
  ⟨some 54, some (46, true), none, false, .un .not (.t 53)⟩,
  ⟨some 55, none, none, false, .pick (.t 46) (.t 54) (.v (.bool false))⟩]) (.cond (.t 55) .ret .skip)) (.ops [⟨some 56, none, none, false, .mov (.t 0)⟩,
  ⟨some 57, none, none, false, .ld1 (.t 1)⟩,
  ⟨some 58, none, none, false, .lenS (.t 57)⟩,
  ⟨some 59, none, none, false, .bld [(.int .i64 0), (.str [])] [(0, 1, (.t 58)), (1, 1, (.v (.str [])))]⟩,
  ⟨some 60, none, none, false, .callv (.t 56) [(.t 59)]⟩]))))
theorem k1104 : fnRC 104 = some ([], r1104) := by kernel_rfl

/-- strobe/trigger.isWord; results .tmp 2 -/
noncomputable def r1105 : RC := (.seq (.ops [⟨some 2, none, none, false, .mov (.v (.bool false))⟩]) (.seq (.ops [⟨some 3, none, none, false, .mov (.t 0)⟩,
  ⟨some 4, none, none, false, .bin .geq 21 true (.t 3) (.v (.int .i32 97))⟩,
  ⟨some 5, none, none, false, .mov (.t 4)⟩,
  ⟨some 6, some (5, true), none, false, .mov (.t 0)⟩,
  ⟨some 7, some (5, true), none, false, .bin .leq 21 true (.t 6) (.v (.int .i32 122))⟩,
  ⟨some 8, none, none, false, .pick (.t 5) (.t 7) (.v (.bool false))⟩,
  ⟨some 9, none, none, false, .mov (.t 8)⟩,
  ⟨some 10, some (9, false), none, false, .mov (.t 0)⟩,
  ⟨some 11, some (9, false), none, false, .bin .geq 21 true (.t 10) (.v (.int .i32 48))⟩,
  ⟨some 12, some (9, false), none, false, .mov (.t 11)⟩,
  ⟨some 13, some (12, true), none, false, .mov (.t 0)⟩,
  ⟨some 14, some (12, true), none, false, .bin .leq 21 true (.t 13) (.v (.int .i32 57))⟩,
  ⟨some 15, some (9, false), none, false, .pick (.t 12) (.t 14) (.v (.bool false))⟩,
  ⟨some 16, none, none, false, .pick (.t 9) (.v (.bool true)) (.t 15)⟩,
  ⟨some 2, none, none, false, .mov (.t 16)⟩]) .ret))
theorem k1105 : fnRC 105 = some ([.tmp 2], r1105) := by kernel_rfl

/-- (*strobe/trigger.reader).take; results  -/
noncomputable def r1106 : RC := (.seq (.seq (.ops [⟨some 4, none, none, false, .mov (.t 0)⟩,
  ⟨some 5, none, none, false, .call 108 [(.t 4)]⟩,
  ⟨some 6, none, none, false, .mov (.t 1)⟩,
  ⟨some 7, none, none, false, .bin .neq 9 false (.t 5) (.t 6)⟩]) (.cond (.t 7) (.seq (.ops [⟨some 8, none, none, false, .mov (.t 0)⟩,
  ⟨some 9, none, none, false, .call 158 [(.t 8)]⟩]) .ret) .skip)) (.ops [⟨some 10, none, none, false, .mov (.t 0)⟩,
  ⟨some 11, none, none, false, .call 159 [(.t 10)]⟩]))
theorem k1106 : fnRC 106 = some ([], r1106) := by kernel_rfl

/-- (*strobe/trigger.reader).number; results .tmp 2 -/
noncomputable def r1107 : RC := (.seq (.ops [⟨some 2, none, none, false, .mov (.v (.int .i64 0))⟩]) (.seq (.ops [⟨some 6, none, none, false, .mov (.t 0)⟩,
  ⟨some 7, none, none, false, .call 108 [(.t 6)]⟩,
  ⟨some 3, none, none, false, .mov (.t 7)⟩]) (.seq (.ops [⟨some 9, none, none, false, .mov (.t 3)⟩,
  ⟨some 10, none, none, false, .call 160 [(.t 9)]⟩,
  ⟨some 8, none, none, false, .mov (.t 10)⟩,
  ⟨some 11, none, none, false, .ext (.t 8) 0⟩,
  ⟨some 12, none, none, false, .ext (.t 8) 1⟩,
  ⟨some 4, none, none, false, .mov (.t 11)⟩,
  ⟨some 5, none, none, false, .mov (.t 12)⟩]) (.seq (.seq (.ops [⟨some 13, none, none, false, .mov (.t 5)⟩,
  ⟨some 14, none, none, false, .bin .neq 153 true (.t 13) (.v .nili)⟩,
  ⟨some 15, none, none, false, .mov (.t 14)⟩,
  ⟨some 16, some (15, false), none, false, .mov (.t 3)⟩,
  ⟨some 17, some (15, false), none, false, .lenS (.t 16)⟩,
  ⟨some 18, some (15, false), none, false, .bin .gtr 3 true (.t 17) (.v (.int .i64 9))⟩,
  ⟨some 19, none, none, false, .pick (.t 15) (.v (.bool true)) (.t 18)⟩,
  ⟨some 20, none, none, false, .mov (.t 19)⟩,
  ⟨some 21, some (20, false), none, false, .mov (.t 4)⟩,
  ⟨some 22, some (20, false), none, false, .call 75 [(.t 21)]⟩,
  ⟨some 23, some (20, false), none, false, .mov (.t 3)⟩,
  ⟨some 24, some (20, false), none, false, .bin .neq 9 false (.t 22) (.t 23)⟩,
  ⟨some 25, none, none, false, .pick (.t 20) (.v (.bool true)) (.t 24)⟩,
  ⟨some 26, none, none, false, .mov (.t 25)⟩,
  ⟨some 27, some (26, false), none, false, .mov (.t 4)⟩,
  ⟨some 28, some (26, false), none, false, .bin .lss 3 true (.t 27) (.v (.int .i64 0))⟩,
  ⟨some 29, none, none, false, .pick (.t 26) (.v (.bool true)) (.t 28)⟩]) (.cond (.t 29) (.seq (.ops [⟨some 30, none, none, false, .mov (.t 0)⟩,
  ⟨some 31, none, none, false, .call 158 [(.t 30)]⟩]) (.seq (.ops [⟨some 2, none, none, false, .mov (.v (.int .i64 0))⟩]) .ret)) .skip)) (.seq (.ops [⟨some 32, none, none, false, .mov (.t 0)⟩,
  ⟨some 33, none, none, false, .call 159 [(.t 32)]⟩]) (.seq (.ops [⟨some 34, none, none, false, .mov (.t 4)⟩,
  ⟨some 2, none, none, false, .mov (.t 34)⟩]) .ret))))))
theorem k1107 : fnRC 107 = some ([.tmp 2], r1107) := by kernel_rfl

/-- (*strobe/trigger.reader).peek; results .tmp 2 -/
noncomputable def r1108 : RC := (.seq (.ops [⟨some 2, none, none, false, .mov (.v (.str []))⟩]) (.seq (.ops [⟨some 3, none, none, false, .mov (.t 0)⟩,
  ⟨some 4, none, none, false, .raw (.nilCheck (.tmp 3))⟩,
  ⟨some 5, none, none, false, .fa 0 (.t 4)⟩,
  ⟨some 6, none, none, false, .ld1 (.t 5)⟩,
  ⟨some 7, none, none, false, .ixa 2 (.t 6) (.v (.int .i64 0))⟩,
  ⟨some 8, none, none, false, .fa 1 (.t 7)⟩,
  ⟨some 9, none, none, false, .ld1 (.t 8)⟩,
  ⟨some 2, none, none, false, .mov (.t 9)⟩]) .ret))
theorem k1108 : fnRC 108 = some ([.tmp 2], r1108) := by kernel_rfl

noncomputable def q1109_0 : Code := rawAt 109 0
theorem d1109_0 : rcDrc U q1109_0 = some (6, [(⟨some 63, none, none, false, .fa 1 (.t 8)⟩, none),
  (⟨some 64, none, none, false, .ld1 (.t 63)⟩, some (0, 1)),
  (⟨some 65, none, none, false, .mov (.t 0)⟩, none),
  (⟨some 66, none, none, true, .call 107 [(.t 65)]⟩, none),
  (⟨some 67, none, none, false, .raw (.nilCheck (.tmp 64))⟩, none),
  (⟨none, none, none, true, .st 1 (.t 67) (.t 66)⟩, none)]) := by kernel_rfl
noncomputable def r1109_l0 : RC := (.seq (.ops [⟨some 51, none, none, false, .bin .lss 3 false (.t 50) (.t 49)⟩]) (.seq (.cond (.t 51) .skip (.exit 0)) (.seq (.block 1 (.seq (.ops [⟨some 52, none, none, false, .ixa 2 (.t 48) (.t 50)⟩,
  ⟨some 53, none, none, false, .ldn 2 (.t 52)⟩,
  ⟨some 8, none, none, false, .al [(.bool false), .nilp] 245⟩,
  ⟨none, none, none, false, .st 2 (.t 8) (.t 53)⟩]) (.seq (.ops [⟨some 54, none, none, false, .fa 0 (.t 8)⟩,
  ⟨some 55, none, none, false, .ld1 (.t 54)⟩,
  ⟨some 56, none, none, false, .mov (.t 55)⟩,
  ⟨some 57, some (56, true), none, false, .mov (.t 0)⟩,
  ⟨some 58, some (56, true), none, false, .raw (.nilCheck (.tmp 57))⟩,
  ⟨some 59, some (56, true), none, false, .fa 1 (.t 58)⟩,
  ⟨some 60, some (56, true), none, false, .ld1 (.t 59)⟩,
  ⟨some 61, some (56, true), none, false, .bin .lss 3 true (.t 60) (.v (.int .i64 0))⟩,
  ⟨some 62, none, none, false, .pick (.t 56) (.t 61) (.v (.bool false))⟩]) (.cond (.t 62) (.raw q1109_0) .skip)))) (.ops [⟨some 68, none, none, false, .bin .add 3 true (.t 50) (.v (.int .i64 1))⟩,
  ⟨some 50, none, none, false, .mov (.t 68)⟩]))))
noncomputable def q1109_1 : Code := rawAt 109 1
noncomputable def r1109_l1 : RC := (.seq (.seq (.ops [⟨some 80, none, none, false, .mov (.t 0)⟩,
  ⟨some 81, none, none, false, .raw (.nilCheck (.tmp 80))⟩,
  ⟨some 82, none, none, false, .fa 1 (.t 81)⟩,
  ⟨some 83, none, none, false, .ld1 (.t 82)⟩,
  ⟨some 84, none, none, false, .bin .lss 3 true (.t 83) (.v (.int .i64 0))⟩]) (.cond (.t 84) .skip (.exit 2))) (.block 3 (.seq (.raw q1109_1) (.seq (.seq (.ops [⟨some 94, none, none, false, .fa 0 (.t 6)⟩,
  ⟨some 95, none, none, false, .ld1 (.t 94)⟩,
  ⟨some 96, none, none, false, .bin .eql 9 true (.t 95) (.v (.str [110, 111, 116]))⟩,
  ⟨some 97, none, none, false, .mov (.t 96)⟩,
  ⟨some 98, some (97, false), none, false, .mov (.t 0)⟩,
  ⟨some 99, some (97, false), none, false, .call 108 [(.t 98)]⟩,
  ⟨some 100, some (97, false), none, false, .bin .neq 9 true (.t 99) (.v (.str [44]))⟩,
  ⟨some 101, none, none, false, .pick (.t 97) (.v (.bool true)) (.t 100)⟩]) (.cond (.t 101) (.exit 2) .skip)) (.ops [⟨some 102, none, none, false, .mov (.t 5)⟩,
  ⟨some 103, none, none, false, .callv (.t 102) []⟩])))))
noncomputable def r1109_f : RC := (.seq (.seq (.ops [⟨some 104, none, none, false, .mov (.t 0)⟩,
  ⟨some 105, none, none, false, .raw (.nilCheck (.tmp 104))⟩,
  ⟨some 106, none, none, false, .fa 1 (.t 105)⟩,
  ⟨some 107, none, none, false, .ld1 (.t 106)⟩,
  ⟨some 108, none, none, false, .bin .lss 3 true (.t 107) (.v (.int .i64 0))⟩]) (.cond (.t 108) (.ops [⟨some 109, none, none, false, .mov (.t 0)⟩,
  ⟨some 110, none, none, false, .call 106 [(.t 109), (.v (.str [41]))]⟩]) .skip)) (.seq (.ops [⟨some 111, none, none, false, .ldn 7 (.t 6)⟩,
  ⟨none, none, none, false, .st 7 (.t 2) (.t 111)⟩]) .ret))
noncomputable def r1109_e : RC := (.seq (.seq (.ops [⟨some 74, none, none, false, .fa 5 (.t 3)⟩,
  ⟨some 75, none, none, false, .ld1 (.t 74)⟩,
  ⟨some 76, none, none, false, .un .not (.t 75)⟩]) (.cond (.t 76) (.seq (.ops [⟨some 77, none, none, false, .ldn 7 (.t 6)⟩,
  ⟨none, none, none, false, .st 7 (.t 2) (.t 77)⟩]) .ret) .skip)) (.seq (.ops [⟨some 78, none, none, false, .mov (.t 0)⟩,
  ⟨some 79, none, none, false, .call 106 [(.t 78), (.v (.str [40]))]⟩]) (.seq (.block 2 (.loop r1109_l1)) r1109_f)))
noncomputable def r1109_d : RC := (.seq (.seq (.ops [⟨some 69, none, none, false, .fa 4 (.t 3)⟩,
  ⟨some 70, none, none, false, .ld1 (.t 69)⟩]) (.cond (.t 70) (.ops [⟨some 71, none, none, false, .mov (.t 0)⟩,
  ⟨some 72, none, none, false, .call 161 [(.t 71)]⟩,
  ⟨some 73, none, none, false, .fa 5 (.t 6)⟩,
  ⟨none, none, none, false, .st 1 (.t 73) (.t 72)⟩]) .skip)) r1109_e)
noncomputable def r1109_c : RC := (.seq (.seq (.ops [⟨some 32, none, none, false, .fa 0 (.t 3)⟩,
  ⟨some 33, none, none, false, .ld1 (.t 32)⟩,
  ⟨some 34, none, none, false, .fa 1 (.t 6)⟩,
  ⟨some 35, none, none, false, .bld [(.bool false), .nilp] [(0, 1, (.t 33)), (1, 1, (.t 34))]⟩,
  ⟨some 36, none, none, false, .fa 1 (.t 3)⟩,
  ⟨some 37, none, none, false, .ld1 (.t 36)⟩,
  ⟨some 38, none, none, false, .fa 2 (.t 6)⟩,
  ⟨some 39, none, none, false, .bld [(.bool false), .nilp] [(0, 1, (.t 37)), (1, 1, (.t 38))]⟩,
  ⟨some 40, none, none, false, .fa 2 (.t 3)⟩,
  ⟨some 41, none, none, false, .ld1 (.t 40)⟩,
  ⟨some 42, none, none, false, .fa 3 (.t 6)⟩,
  ⟨some 43, none, none, false, .bld [(.bool false), .nilp] [(0, 1, (.t 41)), (1, 1, (.t 42))]⟩,
  ⟨some 44, none, none, false, .fa 3 (.t 3)⟩,
  ⟨some 45, none, none, false, .ld1 (.t 44)⟩,
  ⟨some 46, none, none, false, .fa 4 (.t 6)⟩,
  ⟨some 47, none, none, false, .bld [(.bool false), .nilp] [(0, 1, (.t 45)), (1, 1, (.t 46))]⟩,
  ⟨some 48, none, none, false, .bsl 245 2 4 [(.bool false), .nilp, (.bool false), .nilp, (.bool false), .nilp, (.bool false), .nilp] [(0, 2, (.t 35)), (2, 2, (.t 39)), (4, 2, (.t 43)), (6, 2, (.t 47))]⟩,
  ⟨some 49, none, none, false, .lenL (.t 48)⟩,
  ⟨some 50, none, none, false, .mov (.v (.int .i64 0))⟩]) (.block 0 (.loop r1109_l0))) r1109_d)
noncomputable def r1109_b : RC := (.seq (.ops [⟨some 26, none, none, false, .mov (.t 0)⟩,
  ⟨some 27, none, none, false, .mkf 159 [(.t 26)] []⟩,
  ⟨some 5, none, none, false, .mov (.t 27)⟩]) (.seq (.ops [⟨some 28, none, none, false, .mov (.t 5)⟩,
  ⟨some 29, none, none, false, .callv (.t 28) []⟩,
  ⟨some 30, none, none, false, .fd1 1 (.t 29)⟩,
  ⟨some 31, none, none, false, .bld [(.str []), (.int .i64 0), (.int .i64 0), (.int .i64 0), (.int .i64 0), (.str []), .nils] [(0, 1, (.t 30))]⟩,
  ⟨some 6, none, none, false, .al [(.str []), (.int .i64 0), (.int .i64 0), (.int .i64 0), (.int .i64 0), (.str []), .nils] 78⟩,
  ⟨none, none, none, false, .st 7 (.t 6) (.t 31)⟩]) r1109_c))
/-- (*strobe/trigger.reader).cond; results .cell 2 78 -/
noncomputable def r1109 : RC := (.seq (.ops [⟨some 2, none, none, false, .al [(.str []), (.int .i64 0), (.int .i64 0), (.int .i64 0), (.int .i64 0), (.str []), .nils] 78⟩]) (.seq (.ops [⟨some 10, none, none, false, .call 136 []⟩,
  ⟨some 11, none, none, false, .mov (.t 0)⟩,
  ⟨some 12, none, none, false, .call 108 [(.t 11)]⟩,
  ⟨some 13, none, none, false, .raw (.lookup 215 (.tmp 10) (.tmp 12) true)⟩,
  ⟨some 9, none, none, false, .mov (.t 13)⟩,
  ⟨some 14, none, none, false, .ext (.t 9) 0⟩,
  ⟨some 15, none, none, false, .ext (.t 9) 1⟩,
  ⟨some 3, none, none, false, .al [(.bool false), (.bool false), (.bool false), (.bool false), (.bool false), (.bool false), .nilfn, .nilfn, .nilfn] 220⟩,
  ⟨none, none, none, false, .st 9 (.t 3) (.t 14)⟩,
  ⟨some 4, none, none, false, .mov (.t 15)⟩]) (.seq (.seq (.ops [⟨some 16, none, none, false, .mov (.t 4)⟩,
  ⟨some 17, none, none, false, .un .not (.t 16)⟩]) (.cond (.t 17) (.ops [⟨some 18, none, none, false, .mov (.t 0)⟩,
  ⟨some 19, none, none, false, .call 158 [(.t 18)]⟩]) .skip)) (.seq (.seq (.ops [⟨some 20, none, none, false, .mov (.t 0)⟩,
  ⟨some 21, none, none, false, .raw (.nilCheck (.tmp 20))⟩,
  ⟨some 22, none, none, false, .fa 1 (.t 21)⟩,
  ⟨some 23, none, none, false, .ld1 (.t 22)⟩,
  ⟨some 24, none, none, false, .bin .geq 3 true (.t 23) (.v (.int .i64 0))⟩]) (.cond (.t 24) (.seq (.ops [⟨some 25, none, none, false, .bld [(.str []), (.int .i64 0), (.int .i64 0), (.int .i64 0), (.int .i64 0), (.str []), .nils] []⟩,
  ⟨none, none, none, false, .st 7 (.t 2) (.t 25)⟩]) .ret) .skip)) r1109_b))))
theorem k1109 : fnRC 109 = some ([.cell 2 78], r1109) := by kernel_rfl

/-- (*strobe/trigger.reader).option; results .tmp 6 -/
noncomputable def r1110 : RC := (.seq (.ops [⟨some 6, none, none, false, .mov (.v (.int .i64 0))⟩]) (.seq (.seq (.ops [⟨some 7, none, none, false, .mov (.t 0)⟩,
  ⟨some 8, none, none, false, .raw (.nilCheck (.tmp 7))⟩,
  ⟨some 9, none, none, false, .fa 1 (.t 8)⟩,
  ⟨some 10, none, none, false, .ld1 (.t 9)⟩,
  ⟨some 11, none, none, false, .bin .geq 3 true (.t 10) (.v (.int .i64 0))⟩,
  ⟨some 12, none, none, false, .mov (.t 11)⟩,
  ⟨some 13, some (12, false), none, false, .mov (.t 0)⟩,
  ⟨some 14, some (12, false), none, false, .call 108 [(.t 13)]⟩,
  ⟨some 15, some (12, false), none, false, .mov (.t 1)⟩,
  ⟨some 16, some (12, false), none, false, .bin .neq 9 false (.t 14) (.t 15)⟩,
  ⟨some 17, none, none, false, .pick (.t 12) (.v (.bool true)) (.t 16)⟩]) (.cond (.t 17) (.seq (.ops [⟨some 18, none, none, false, .mov (.t 2)⟩,
  ⟨some 6, none, none, false, .mov (.t 18)⟩]) .ret) .skip)) (.seq (.ops [⟨some 19, none, none, false, .mov (.t 0)⟩,
  ⟨some 20, none, none, false, .call 159 [(.t 19)]⟩]) (.seq (.ops [⟨some 21, none, none, false, .mov (.t 0)⟩,
  ⟨some 22, none, none, false, .call 107 [(.t 21)]⟩,
  ⟨some 6, none, none, false, .mov (.t 22)⟩]) .ret))))
theorem k1110 : fnRC 110 = some ([.tmp 6], r1110) := by kernel_rfl

/-- (*strobe/trigger.reader).fail; results  -/
noncomputable def r1158 : RC := (.seq (.ops [⟨some 2, none, none, false, .mov (.t 0)⟩,
  ⟨some 3, none, none, false, .raw (.nilCheck (.tmp 2))⟩,
  ⟨some 4, none, none, false, .fa 1 (.t 3)⟩,
  ⟨some 5, none, none, false, .ld1 (.t 4)⟩,
  ⟨some 6, none, none, false, .bin .lss 3 true (.t 5) (.v (.int .i64 0))⟩]) (.cond (.t 6) (.ops [⟨some 7, none, none, false, .mov (.t 0)⟩,
  ⟨some 8, none, none, false, .mov (.t 0)⟩,
  ⟨some 9, none, none, false, .raw (.nilCheck (.tmp 8))⟩,
  ⟨some 10, none, none, false, .fa 0 (.t 9)⟩,
  ⟨some 11, none, none, false, .ld1 (.t 10)⟩,
  ⟨some 12, none, none, false, .ixa 2 (.t 11) (.v (.int .i64 0))⟩,
  ⟨some 13, none, none, false, .fa 0 (.t 12)⟩,
  ⟨some 14, none, none, false, .ld1 (.t 13)⟩,
  ⟨some 15, none, none, false, .raw (.nilCheck (.tmp 7))⟩,
  ⟨some 16, none, none, false, .fa 1 (.t 15)⟩,
  ⟨none, none, none, false, .st 1 (.t 16) (.t 14)⟩]) .skip))
theorem k1158 : fnRC 158 = some ([], r1158) := by kernel_rfl

/-- (*strobe/trigger.reader).next; results .cell 2 94 -/
noncomputable def r1159 : RC := (.seq (.ops [⟨some 2, none, none, false, .al [(.int .i64 0), (.str [])] 94⟩]) (.seq (.ops [⟨some 4, none, none, false, .mov (.t 0)⟩,
  ⟨some 5, none, none, false, .raw (.nilCheck (.tmp 4))⟩,
  ⟨some 6, none, none, false, .fa 0 (.t 5)⟩,
  ⟨some 7, none, none, false, .ld1 (.t 6)⟩,
  ⟨some 8, none, none, false, .ixa 2 (.t 7) (.v (.int .i64 0))⟩,
  ⟨some 9, none, none, false, .ldn 2 (.t 8)⟩,
  ⟨some 3, none, none, false, .al [(.int .i64 0), (.str [])] 94⟩,
  ⟨none, none, none, false, .st 2 (.t 3) (.t 9)⟩]) (.seq (.seq (.ops [⟨some 10, none, none, false, .mov (.t 0)⟩,
  ⟨some 11, none, none, false, .raw (.nilCheck (.tmp 10))⟩,
  ⟨some 12, none, none, false, .fa 0 (.t 11)⟩,
  ⟨some 13, none, none, false, .ld1 (.t 12)⟩,
  ⟨some 14, none, none, false, .lenL (.t 13)⟩,
  ⟨some 15, none, none, false, .bin .gtr 3 true (.t 14) (.v (.int .i64 1))⟩]) (.cond (.t 15) (.ops [⟨some 16, none, none, false, .mov (.t 0)⟩,
  ⟨some 17, none, none, false, .mov (.t 0)⟩,
  ⟨some 18, none, none, false, .raw (.nilCheck (.tmp 17))⟩,
  ⟨some 19, none, none, false, .fa 0 (.t 18)⟩,
  ⟨some 20, none, none, false, .ld1 (.t 19)⟩,
  ⟨some 21, none, none, false, .sll 2 (.t 20) (some (.v (.int .i64 1))) none⟩,
  ⟨some 22, none, none, false, .raw (.nilCheck (.tmp 16))⟩,
  ⟨some 23, none, none, false, .fa 0 (.t 22)⟩,
  ⟨none, none, none, false, .st 1 (.t 23) (.t 21)⟩]) .skip)) (.seq (.ops [⟨some 24, none, none, false, .ldn 2 (.t 3)⟩,
  ⟨none, none, none, false, .st 2 (.t 2) (.t 24)⟩]) .ret))))
theorem k1159 : fnRC 159 = some ([.cell 2 94], r1159) := by kernel_rfl

/-- (*strobe/trigger.reader).word; results .tmp 2 -/
noncomputable def r1161 : RC := (.seq (.ops [⟨some 2, none, none, false, .mov (.v (.str []))⟩]) (.seq (.ops [⟨some 4, none, none, false, .mov (.t 0)⟩,
  ⟨some 5, none, none, false, .call 108 [(.t 4)]⟩,
  ⟨some 3, none, none, false, .mov (.t 5)⟩]) (.seq (.seq (.ops [⟨some 6, none, none, false, .mov (.t 3)⟩,
  ⟨some 7, none, none, false, .bin .eql 9 true (.t 6) (.v (.str []))⟩,
  ⟨some 8, none, none, false, .mov (.t 7)⟩,
  ⟨some 9, some (8, false), none, false, .mov (.t 3)⟩,
  ⟨some 10, some (8, false), none, false, .ixs (.t 9) (.v (.int .i64 0))⟩,
  ⟨some 11, some (8, false), none, false, .raw (.convert 5 21 (.tmp 10))⟩,
  ⟨some 12, some (8, false), none, false, .call 105 [(.t 11)]⟩,
  ⟨some 13, some (8, false), none, false, .un .not (.t 12)⟩,
  ⟨some 14, none, none, false, .pick (.t 8) (.v (.bool true)) (.t 13)⟩]) (.cond (.t 14) (.seq (.ops [⟨some 15, none, none, false, .mov (.t 0)⟩,
  ⟨some 16, none, none, false, .call 158 [(.t 15)]⟩]) (.seq (.ops [⟨some 2, none, none, false, .mov (.v (.str []))⟩]) .ret)) .skip)) (.seq (.ops [⟨some 17, none, none, false, .mov (.t 0)⟩,
  ⟨some 18, none, none, false, .call 159 [(.t 17)]⟩,
  ⟨some 19, none, none, false, .fd1 1 (.t 18)⟩,
  ⟨some 2, none, none, false, .mov (.t 19)⟩]) .ret))))
theorem k1161 : fnRC 161 = some ([.tmp 2], r1161) := by kernel_rfl


/-- what a loop over a function does with each value -/
def rfA : Code → Code
  | .rangeFunc _ _ a _ => a
  | c => c
def rfB : Code → Code
  | .rangeFunc _ _ _ b => b
  | c => c
def blkB : Code → Code
  | .block _ b => b
  | c => c
theorem q1009_0_eq : q1009_0 = .rangeFunc (.tmp 16) #[17] (rfA q1009_0) (rfB q1009_0) := by kernel_rfl
noncomputable def r1009_a : RC := .ops [⟨some 6, none, none, false, .al [.int .i64 0, .str []] 94⟩,
  ⟨none, none, none, false, .st 2 (.t 6) (.t 17)⟩]
theorem rc_1009_a : rc U (rfA q1009_0) = r1009_a := by kernel_rfl
theorem rc_1009_b : rc U (rfB q1009_0) = .block 1 (.raw (blkB (rfB q1009_0))) := by kernel_rfl
theorem d1009_b : rcDrc U (blkB (rfB q1009_0)) = some (11, [(⟨some 18, none, none, false, .ld1 (.t 5)⟩, some (0, 1)),
  (⟨some 19, none, none, false, .ld1 (.t 5)⟩, none),
  (⟨some 20, none, none, false, .raw (.nilCheck (.tmp 19))⟩, none),
  (⟨some 21, none, none, false, .fa 0 (.t 20)⟩, none),
  (⟨some 22, none, none, false, .ld1 (.t 21)⟩, none),
  (⟨some 23, none, none, false, .ldn 2 (.t 6)⟩, none),
  (⟨some 24, none, some 6, false, .bsl 94 2 1 [(.int .i64 0), (.str [])] [(0, 2, (.t 23))]⟩, none),
  (⟨some 25, none, none, true, .app 94 2 24 (.t 22) (.t 24)⟩, none),
  (⟨some 26, none, none, false, .raw (.nilCheck (.tmp 18))⟩, none),
  (⟨some 27, none, none, false, .fa 0 (.t 26)⟩, none),
  (⟨none, none, none, true, .st 1 (.t 27) (.t 25)⟩, none)]) := by kernel_rfl

end Go.Am
set_option linter.all false
namespace Go.Am
open Go Go.Proofs
variable [MaxLen]
set_option maxRecDepth 100000
theorem ld_25 (a : AV) (s : St) : loadA U 25 a s = ldn 2 a s := loadA_n U ag_25 sz_25 a s
theorem ld_31 (a : AV) (s : St) : loadA U 31 a s = ldn 2 a s := loadA_n U ag_31 sz_31 a s
theorem ld_39 (a : AV) (s : St) : loadA U 106 a s = ldn 7 a s := loadA_n U ag_39 sz_39 a s
theorem ld_48 (a : AV) (s : St) : loadA U 78 a s = ldn 7 a s := loadA_n U ag_48 sz_48 a s
theorem ld_69 (a : AV) (s : St) : loadA U 42 a s = ldn 3 a s := loadA_n U ag_69 sz_69 a s
theorem ld_72 (a : AV) (s : St) : loadA U 46 a s = ldn 3 a s := loadA_n U ag_72 sz_72 a s
theorem ld_116 (a : AV) (s : St) : loadA U 55 a s = ldn 2 a s := loadA_n U ag_116 sz_116 a s
theorem ag_131 : isAggT U 94 = some true := by kernel_rfl
theorem sz_131 : size U 94 = some 2 := by kernel_rfl
theorem ld_131 (a : AV) (s : St) : loadA U 94 a s = ldn 2 a s := loadA_n U ag_131 sz_131 a s
theorem ld_152 (a : AV) (s : St) : loadA U 128 a s = ldn 3 a s := loadA_n U ag_152 sz_152 a s
theorem ag_160 : isAggT U 186 = some true := by kernel_rfl
theorem sz_160 : size U 186 = some 6 := by kernel_rfl
theorem ld_160 (a : AV) (s : St) : loadA U 186 a s = ldn 6 a s := loadA_n U ag_160 sz_160 a s
theorem ag_167 : isAggT U 133 = some true := by kernel_rfl
theorem sz_167 : size U 133 = some 3 := by kernel_rfl
theorem ld_167 (a : AV) (s : St) : loadA U 133 a s = ldn 3 a s := loadA_n U ag_167 sz_167 a s
theorem ag_305 : isAggT U 300 = some true := by kernel_rfl
theorem sz_305 : size U 300 = some 256 := by kernel_rfl
theorem ld_305 (a : AV) (s : St) : loadA U 300 a s = ldn 256 a s := loadA_n U ag_305 sz_305 a s
theorem gateV_false (x : Option AV) (s : St) : gateV false x s = some (undef, s) := (fun h => h) rfl
theorem gateC_false (X : Cx) (x : Option AV) (f : FuncId) (args : List AV) (s : St) : gateC X false x f args s = some (undef, s) := (fun h => h) rfl
theorem gateV_true (x : Option AV) (s : St) : gateV true x s = pureO x s := (fun h => h) rfl
theorem gateC_true (X : Cx) (x : Option AV) (f : FuncId) (args : List AV) (s : St) : gateC X true x f args s = callK X x f args s := (fun h => h) rfl
def St.upto (s : St) (k : Nat) : St := { s with next := k }
theorem upto_get (s : St) (k j : Nat) : (s.upto k).get j = s.get j := (fun h => h) rfl
theorem upto_next (s : St) (k : Nat) : (s.upto k).next = k := (fun h => h) rfl
theorem go_drw_upto {X : Cx} {β : Type} (fin : Fl → β) (ks : List K) (e : Env) (s : St) (n : Nat) (l : List RO) : go X fin ks (.drw n l) e s = bif noneR s.next s l then goD' X fin ks s.next l e (s.upto (s.next + n)) else stuck X fin ks := go_drw X fin ks e s n l
theorem gb_none {n : Nat} (h : 4 ≤ n) : U.gbase n = none := by
  rw [U_gbase]; unfold gbU gcell
  match n, h with
  | n + 4, _ => rfl
/-- no block stands yet from the counter on -/
def Fr (s : St) : Prop := ∀ j, s.next ≤ j → s.get j = none
theorem Fr.at {s : St} (h : Fr s) (k : Nat) : s.get (s.next + k) = none := h _ (by omega)
theorem Fr.own : Fr (ownSt U) := fun j hj => by
  rw [own_get]; rw [own_next, U_glob] at hj; exact gb_none (by omega)
theorem Fr.new {s : St} (h : Fr s) (x : Blk) : Fr (s.new x) := fun j hj => by
  rw [next_new] at hj; rw [get_new, if_neg (by omega)]; exact h j (by omega)
theorem Fr.put {s : St} (h : Fr s) {k : Nat} (hk : k < s.next) (x : Blk) : Fr (s.put k x) := fun j hj => by
  rw [next_put] at hj; rw [get_put, if_neg (by omega)]; exact h j (by omega)
theorem Fr.upto {s : St} (h : Fr s) {k : Nat} (hk : s.next ≤ k) : Fr (s.upto k) := fun j hj => by
  rw [upto_next] at hj; rw [upto_get]; exact h j (by omega)
attribute [go_sem ↓ high] go_drw_upto
attribute [go_sem ↓] upto_get upto_next
attribute [go_sem] gb_none Option.isNone_none
attribute [go_sem ↓] gateV_false gateC_false gateV_true gateC_true
attribute [go_sem] ld_25 ld_31 ld_39 ld_48 ld_69 ld_72 ld_116 ag_131 sz_131 ld_131 ld_152 ag_160 sz_160 ld_160 ag_167 sz_167 ld_167 ag_305 sz_305 ld_305
end Go.Am
