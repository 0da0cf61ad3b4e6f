/- A part of the proof of a statement of this seat: the machine on which the program is read, and what it computes; for every input. -/
import Derived.Test.YtikiipfbkfgmbaaGreatDoorN05
import Derived.Test.YtikiipfbkfgmbaaGreatDoorN04
import Derived.Test.YtikiipfbkfgmbaaGreatDoorN11
set_option linter.all false
namespace Go.Am
open Go
variable [MaxLen]
set_option maxRecDepth 100000
set_option maxHeartbeats 8000000

/-- strobe/strobelaw04.TriggerTimes; results .tmp 4 -/
def r5 : RC := (.seq (.ops [⟨some 2, none, none, false, .box 31 (.t 0)⟩,
  ⟨some 4, none, none, false, .mov (.v (.bool false))⟩]) (.seq (.seq (.ops [⟨some 9, none, none, false, .call 16 []⟩,
  ⟨some 10, none, none, false, .un .not (.t 9)⟩,
  ⟨some 11, none, none, false, .mov (.t 10)⟩,
  ⟨some 12, some (11, false), none, false, .ldn 2 (.t 2)⟩,
  ⟨some 13, some (11, false), none, false, .call 31 [(.t 12), (.v (.int .i64 12))]⟩,
  ⟨some 14, some (11, false), none, false, .un .not (.t 13)⟩,
  ⟨some 15, none, none, false, .pick (.t 11) (.v (.bool true)) (.t 14)⟩,
  ⟨some 16, none, none, false, .mov (.t 15)⟩,
  ⟨some 17, some (16, false), none, false, .mov (.t 1)⟩,
  ⟨some 18, some (16, false), none, false, .call 22 [(.t 17), (.v (.int .i64 60))]⟩,
  ⟨some 19, some (16, false), none, false, .un .not (.t 18)⟩,
  ⟨some 20, none, none, false, .pick (.t 16) (.v (.bool true)) (.t 19)⟩]) (.cond (.t 20) (.seq (.ops [⟨some 21, none, none, false, .call 16 []⟩,
  ⟨some 4, none, none, false, .mov (.t 21)⟩]) .ret) .skip)) (.seq (.ops [⟨some 23, none, none, false, .ldn 2 (.t 2)⟩,
  ⟨some 24, none, none, false, .call 33 [(.t 23)]⟩,
  ⟨some 25, none, none, false, .mov (.t 1)⟩,
  ⟨some 26, none, none, false, .call 32 [(.t 24), (.t 25)]⟩,
  ⟨some 22, none, none, false, .mov (.t 26)⟩,
  ⟨some 27, none, none, false, .ext (.t 22) 0⟩,
  ⟨some 28, none, none, false, .ext (.t 22) 1⟩,
  ⟨some 5, none, none, false, .mov (.t 27)⟩,
  ⟨some 6, none, none, false, .mov (.t 28)⟩]) (.seq (.ops [⟨some 29, none, none, false, .ldn 2 (.t 2)⟩,
  ⟨some 30, none, none, false, .call 34 [(.t 29)]⟩,
  ⟨some 7, none, none, false, .mov (.t 30)⟩]) (.seq (.seq (.ops [⟨some 31, none, none, false, .mov (.t 7)⟩,
  ⟨some 32, none, none, false, .bin .eql 3 true (.t 31) (.v (.int .i64 0))⟩]) (.cond (.t 32) (.ops [⟨some 33, none, none, false, .fa 0 (.t 2)⟩,
  ⟨some 34, none, none, false, .ld1 (.t 33)⟩,
  ⟨some 35, none, none, false, .mov (.t 1)⟩,
  ⟨some 36, none, none, false, .call 28 [(.t 34), (.t 35)]⟩,
  ⟨some 7, none, none, false, .mov (.t 36)⟩]) .skip)) (.seq (.ops [⟨some 8, none, none, false, .mov (.v .nils)⟩]) (.seq (.seq (.ops [⟨some 37, none, none, false, .mov (.t 7)⟩,
  ⟨some 38, none, none, false, .bin .eql 3 true (.t 37) (.v (.int .i64 0))⟩]) (.cond (.t 38) (.ops [⟨some 39, none, none, false, .ldn 2 (.t 2)⟩,
  ⟨some 40, none, none, false, .mov (.t 1)⟩,
  ⟨some 41, none, none, false, .call 35 [(.t 39), (.t 40)]⟩,
  ⟨some 8, none, none, false, .mov (.t 41)⟩]) .skip)) (.seq (.ops [⟨some 42, none, none, false, .mov (.t 5)⟩,
  ⟨some 43, none, none, false, .mov (.t 6)⟩,
  ⟨some 44, none, none, false, .mov (.t 7)⟩,
  ⟨some 45, none, none, false, .mov (.t 8)⟩,
  ⟨some 46, none, none, false, .call 36 [(.t 42), (.t 43), (.t 44), (.t 45)]⟩,
  ⟨some 4, none, none, false, .mov (.t 46)⟩]) .ret))))))))
theorem k5 : fnRC 5 = some ([.tmp 4], r5) := by kernel_rfl

def r32_l0 : RC := (.seq (.ops [⟨some 39, none, none, false, .bin .lss 3 false (.t 38) (.t 37)⟩]) (.seq (.cond (.t 39) .skip (.exit 0)) (.seq (.block 1 (.seq (.ops [⟨some 40, none, none, false, .mov (.t 38)⟩,
  ⟨some 41, none, none, false, .ixa 1 (.t 36) (.t 38)⟩,
  ⟨some 42, none, none, false, .ld1 (.t 41)⟩,
  ⟨some 12, none, none, false, .mov (.t 40)⟩,
  ⟨some 13, none, none, false, .mov (.t 42)⟩]) (.seq (.drw 18 [⟨some 44, none, none, false, .ldn 3 (.t 8)⟩,
  ⟨some 45, none, none, false, .mov (.t 9)⟩,
  ⟨some 46, none, none, false, .mov (.t 13)⟩,
  ⟨some 47, none, none, false, .mov (.t 1)⟩,
  ⟨some 48, none, none, false, .mov (.t 12)⟩,
  ⟨some 49, none, none, false, .bin .sub 3 true (.t 48) (.v (.int .i64 1))⟩,
  ⟨some 50, none, none, false, .raw (.call { callee := .builtin .max, args := #[(.const (.int .i64 0)), (.tmp 49)], argTypes := #[3, 3] })⟩,
  ⟨some 51, none, none, false, .ixa 1 (.t 47) (.t 50)⟩,
  ⟨some 52, none, none, false, .ld1 (.t 51)⟩,
  ⟨some 53, none, none, false, .mov (.t 12)⟩,
  ⟨some 54, none, none, false, .bin .eql 3 true (.t 53) (.v (.int .i64 0))⟩,
  ⟨some 55, none, none, false, .bld [(.int .i64 0), (.int .i64 0), (.bool false)] [(0, 1, (.t 46)), (1, 1, (.t 52)), (2, 1, (.t 54))]⟩,
  ⟨some 56, none, none, false, .call 93 [(.t 44), (.t 45), (.t 55)]⟩,
  ⟨some 43, none, none, false, .mov (.t 56)⟩,
  ⟨some 57, none, none, false, .ext (.t 43) 0⟩,
  ⟨some 58, none, none, false, .ext (.t 43) 1⟩,
  ⟨some 14, none, none, false, .mov (.t 57)⟩,
  ⟨some 15, none, none, false, .mov (.t 58)⟩]) (.seq (.ops [⟨some 60, none, none, false, .ldn 2 (.t 2)⟩,
  ⟨some 61, none, none, false, .ldn 3 (.t 11)⟩,
  ⟨some 62, none, none, false, .mov (.t 15)⟩,
  ⟨some 63, none, none, false, .call 99 [(.t 60), (.t 61), (.t 62)]⟩,
  ⟨some 59, none, none, false, .mov (.t 63)⟩,
  ⟨some 64, none, none, false, .ext (.t 59) 0⟩,
  ⟨some 65, none, none, false, .ext (.t 59) 1⟩,
  ⟨some 16, none, none, false, .al [(.int .i64 0), (.int .i64 0), (.int .i64 0)] 167⟩,
  ⟨none, none, none, false, .st 3 (.t 16) (.t 64)⟩,
  ⟨some 17, none, none, false, .mov (.t 65)⟩]) (.seq (.drw 4 [⟨some 66, none, none, false, .mov (.t 14)⟩,
  ⟨some 67, none, none, false, .ldn 3 (.t 16)⟩,
  ⟨some 9, none, none, false, .mov (.t 66)⟩,
  ⟨none, none, none, true, .st 3 (.t 11) (.t 67)⟩]) (.seq (.ops [⟨some 68, none, none, false, .mov (.t 17)⟩]) (.cond (.t 68) (.ops [⟨some 69, none, none, false, .mov (.t 10)⟩,
  ⟨some 70, none, none, false, .mov (.t 12)⟩,
  ⟨some 71, none, none, false, .bsl 3 1 1 [(.int .i64 0)] [(0, 1, (.t 70))]⟩,
  ⟨some 72, none, none, false, .app 3 1 8 (.t 69) (.t 71)⟩,
  ⟨some 10, none, none, false, .mov (.t 72)⟩]) .skip))))))) (.ops [⟨some 73, none, none, false, .bin .add 3 true (.t 38) (.v (.int .i64 1))⟩,
  ⟨some 38, none, none, false, .mov (.t 73)⟩]))))
/-- strobe/trigger.Triggers; results .tmp 4,.tmp 5 -/
def r32 : RC := (.seq (.ops [⟨some 2, none, none, false, .box 25 (.t 0)⟩,
  ⟨some 4, none, none, false, .mov (.v .nils)⟩,
  ⟨some 5, none, none, false, .mov (.v (.int .i64 0))⟩]) (.seq (.seq (.ops [⟨some 18, none, none, false, .ldn 2 (.t 2)⟩,
  ⟨some 19, none, none, false, .call 64 [(.t 18)]⟩,
  ⟨some 6, none, none, false, .mov (.t 19)⟩]) (.seq (.ops [⟨some 20, none, none, false, .mov (.t 6)⟩,
  ⟨some 21, none, none, false, .bin .neq 26 true (.t 20) (.v (.int .i64 0))⟩]) (.cond (.t 21) (.seq (.ops [⟨some 22, none, none, false, .mov (.t 6)⟩,
  ⟨some 4, none, none, false, .mov (.v .nils)⟩,
  ⟨some 5, none, none, false, .mov (.t 22)⟩]) .ret) .skip))) (.seq (.seq (.ops [⟨some 23, none, none, false, .fa 0 (.t 2)⟩,
  ⟨some 24, none, none, false, .ld1 (.t 23)⟩,
  ⟨some 25, none, none, false, .mov (.t 1)⟩,
  ⟨some 26, none, none, false, .call 91 [(.t 24), (.t 25)]⟩,
  ⟨some 7, none, none, false, .mov (.t 26)⟩]) (.seq (.ops [⟨some 27, none, none, false, .mov (.t 7)⟩,
  ⟨some 28, none, none, false, .bin .neq 26 true (.t 27) (.v (.int .i64 0))⟩]) (.cond (.t 28) (.seq (.ops [⟨some 29, none, none, false, .mov (.t 7)⟩,
  ⟨some 4, none, none, false, .mov (.v .nils)⟩,
  ⟨some 5, none, none, false, .mov (.t 29)⟩]) .ret) .skip))) (.seq (.ops [⟨some 31, none, none, false, .ldn 2 (.t 2)⟩,
  ⟨some 32, none, none, false, .call 98 [(.t 31)]⟩,
  ⟨some 33, none, none, false, .call 92 [(.t 32)]⟩,
  ⟨some 30, none, none, false, .mov (.t 33)⟩,
  ⟨some 34, none, none, false, .ext (.t 30) 0⟩,
  ⟨some 35, none, none, false, .ext (.t 30) 1⟩,
  ⟨some 8, none, none, false, .al [.nils, .nils, .nils] 152⟩,
  ⟨none, none, none, false, .st 3 (.t 8) (.t 34)⟩,
  ⟨some 9, none, none, false, .mov (.t 35)⟩]) (.seq (.ops [⟨some 10, none, none, false, .mov (.v .nils)⟩]) (.seq (.ops [⟨some 11, none, none, false, .al [(.int .i64 0), (.int .i64 0), (.int .i64 0)] 167⟩]) (.seq (.seq (.ops [⟨some 36, none, none, false, .mov (.t 1)⟩,
  ⟨some 37, none, none, false, .lenL (.t 36)⟩,
  ⟨some 38, none, none, false, .mov (.v (.int .i64 0))⟩]) (.block 0 (.loop r32_l0))) (.seq (.ops [⟨some 74, none, none, false, .mov (.t 10)⟩,
  ⟨some 4, none, none, false, .mov (.t 74)⟩,
  ⟨some 5, none, none, false, .mov (.v (.int .i64 0))⟩]) .ret))))))))
theorem k32 : fnRC 32 = some ([.tmp 4, .tmp 5], r32) := by kernel_rfl

def r35_l0 : RC := (.seq (.seq (.ops [⟨some 11, none, none, false, .mov (.t 9)⟩,
  ⟨some 12, none, none, false, .mov (.t 1)⟩,
  ⟨some 13, none, none, false, .lenL (.t 12)⟩,
  ⟨some 14, none, none, false, .bin .lss 3 false (.t 11) (.t 13)⟩]) (.cond (.t 14) .skip (.exit 0))) (.seq (.block 1 (.seq (.seq (.ops [⟨some 17, none, none, false, .fa 1 (.t 2)⟩,
  ⟨some 18, none, none, false, .ld1 (.t 17)⟩,
  ⟨some 19, none, none, false, .mov (.t 6)⟩,
  ⟨some 20, none, none, false, .ixa 9 (.t 18) (.t 19)⟩,
  ⟨some 21, none, none, false, .fa 8 (.t 20)⟩,
  ⟨some 22, none, none, false, .ld1 (.t 21)⟩,
  ⟨some 10, none, none, false, .mov (.t 22)⟩]) (.seq (.ops [⟨some 23, none, none, false, .mov (.t 10)⟩,
  ⟨some 24, none, none, false, .bin .gtr 3 true (.t 23) (.v (.int .i64 0))⟩,
  ⟨some 25, none, none, false, .mov (.t 24)⟩,
  ⟨some 26, some (25, true), none, false, .mov (.t 9)⟩,
  ⟨some 27, some (25, true), none, false, .mov (.t 8)⟩,
  ⟨some 28, some (25, true), none, false, .bin .sub 3 false (.t 26) (.t 27)⟩,
  ⟨some 29, some (25, true), none, false, .mov (.t 10)⟩,
  ⟨some 30, some (25, true), none, false, .bin .gtr 3 false (.t 28) (.t 29)⟩,
  ⟨some 31, none, none, false, .pick (.t 25) (.t 30) (.v (.bool false))⟩]) (.cond (.t 31) (.ops [⟨some 6, none, none, false, .mov (.v (.int .i64 0))⟩,
  ⟨some 7, none, none, false, .mov (.v (.int .i64 0))⟩]) .skip))) (.seq (.seq (.ops [⟨some 32, none, none, false, .fa 1 (.t 2)⟩,
  ⟨some 33, none, none, false, .ld1 (.t 32)⟩,
  ⟨some 34, none, none, false, .mov (.t 6)⟩,
  ⟨some 35, none, none, false, .ixa 9 (.t 33) (.t 34)⟩,
  ⟨some 36, none, none, false, .fa 0 (.t 35)⟩,
  ⟨some 37, none, none, false, .ldn 7 (.t 36)⟩,
  ⟨some 38, none, none, false, .mov (.t 1)⟩,
  ⟨some 39, none, none, false, .mov (.t 9)⟩,
  ⟨some 40, none, none, false, .call 97 [(.t 37), (.t 38), (.t 39)]⟩,
  ⟨some 41, none, none, false, .un .not (.t 40)⟩]) (.cond (.t 41) (.exit 1) .skip)) (.seq (.ops [⟨some 42, none, none, false, .mov (.t 7)⟩,
  ⟨some 43, none, none, false, .bin .add 3 true (.t 42) (.v (.int .i64 1))⟩,
  ⟨some 7, none, none, false, .mov (.t 43)⟩]) (.seq (.seq (.ops [⟨some 44, none, none, false, .mov (.t 7)⟩,
  ⟨some 45, none, none, false, .fa 1 (.t 2)⟩,
  ⟨some 46, none, none, false, .ld1 (.t 45)⟩,
  ⟨some 47, none, none, false, .mov (.t 6)⟩,
  ⟨some 48, none, none, false, .ixa 9 (.t 46) (.t 47)⟩,
  ⟨some 49, none, none, false, .fa 7 (.t 48)⟩,
  ⟨some 50, none, none, false, .ld1 (.t 49)⟩,
  ⟨some 51, none, none, false, .bin .lss 3 false (.t 44) (.t 50)⟩]) (.cond (.t 51) (.exit 1) .skip)) (.seq (.ops [⟨some 52, none, none, false, .mov (.t 6)⟩,
  ⟨some 53, none, none, false, .bin .add 3 true (.t 52) (.v (.int .i64 1))⟩,
  ⟨some 54, none, none, false, .mov (.t 9)⟩,
  ⟨some 6, none, none, false, .mov (.t 53)⟩,
  ⟨some 7, none, none, false, .mov (.v (.int .i64 0))⟩,
  ⟨some 8, none, none, false, .mov (.t 54)⟩]) (.seq (.ops [⟨some 55, none, none, false, .mov (.t 6)⟩,
  ⟨some 56, none, none, false, .fa 1 (.t 2)⟩,
  ⟨some 57, none, none, false, .ld1 (.t 56)⟩,
  ⟨some 58, none, none, false, .lenL (.t 57)⟩,
  ⟨some 59, none, none, false, .bin .eql 3 false (.t 55) (.t 58)⟩]) (.cond (.t 59) (.seq (.ops [⟨some 60, none, none, false, .mov (.t 5)⟩,
  ⟨some 61, none, none, false, .mov (.t 9)⟩,
  ⟨some 62, none, none, false, .bsl 3 1 1 [(.int .i64 0)] [(0, 1, (.t 61))]⟩,
  ⟨some 63, none, none, false, .app 3 1 8 (.t 60) (.t 62)⟩,
  ⟨some 5, none, none, false, .mov (.t 63)⟩]) (.ops [⟨some 6, none, none, false, .mov (.v (.int .i64 0))⟩])) .skip)))))))) (.ops [⟨some 15, none, none, false, .mov (.t 9)⟩,
  ⟨some 16, none, none, false, .bin .add 3 true (.t 15) (.v (.int .i64 1))⟩,
  ⟨some 9, none, none, false, .mov (.t 16)⟩])))
/-- strobe/stroberef04.Triggers; results .tmp 4 -/
def r35 : RC := (.seq (.ops [⟨some 2, none, none, false, .box 31 (.t 0)⟩,
  ⟨some 4, none, none, false, .mov (.v .nils)⟩]) (.seq (.ops [⟨some 5, none, none, false, .mov (.v .nils)⟩]) (.seq (.ops [⟨some 6, none, none, false, .mov (.v (.int .i64 0))⟩,
  ⟨some 7, none, none, false, .mov (.v (.int .i64 0))⟩,
  ⟨some 8, none, none, false, .mov (.v (.int .i64 0))⟩]) (.seq (.seq (.ops [⟨some 9, none, none, false, .mov (.v (.int .i64 0))⟩]) (.block 0 (.loop r35_l0))) (.seq (.ops [⟨some 64, none, none, false, .mov (.t 5)⟩,
  ⟨some 4, none, none, false, .mov (.t 64)⟩]) .ret)))))
theorem k35 : fnRC 35 = some ([.tmp 4], r35) := by kernel_rfl

/-- strobe/strobelaw04.list; results .tmp 8 -/
def r36 : RC := (.seq (.ops [⟨some 8, none, none, false, .mov (.v (.bool false))⟩]) (.seq (.seq (.ops [⟨some 9, none, none, false, .mov (.t 2)⟩,
  ⟨some 10, none, none, false, .bin .neq 3 true (.t 9) (.v (.int .i64 0))⟩]) (.cond (.t 10) (.seq (.ops [⟨some 11, none, none, false, .mov (.t 0)⟩,
  ⟨some 12, none, none, false, .lenL (.t 11)⟩,
  ⟨some 13, none, none, false, .bin .eql 3 true (.t 12) (.v (.int .i64 0))⟩,
  ⟨some 14, none, none, false, .mov (.t 13)⟩,
  ⟨some 15, some (14, true), none, false, .mov (.t 1)⟩,
  ⟨some 16, some (14, true), none, false, .mov (.t 2)⟩,
  ⟨some 17, some (14, true), none, false, .bin .eql 3 false (.t 15) (.t 16)⟩,
  ⟨some 18, none, none, false, .pick (.t 14) (.t 17) (.v (.bool false))⟩,
  ⟨some 8, none, none, false, .mov (.t 18)⟩]) .ret) .skip)) (.seq (.ops [⟨some 19, none, none, false, .mov (.t 1)⟩,
  ⟨some 20, none, none, false, .bin .eql 26 true (.t 19) (.v (.int .i64 0))⟩,
  ⟨some 21, none, none, false, .mov (.t 20)⟩,
  ⟨some 22, some (21, true), none, false, .mov (.t 0)⟩,
  ⟨some 23, some (21, true), none, false, .mov (.t 3)⟩,
  ⟨some 24, some (21, true), none, false, .call 56 [(.t 22), (.t 23)]⟩,
  ⟨some 25, none, none, false, .pick (.t 21) (.t 24) (.v (.bool false))⟩,
  ⟨some 8, none, none, false, .mov (.t 25)⟩]) .ret)))
theorem k36 : fnRC 36 = some ([.tmp 8], r36) := by kernel_rfl

/-- strobe/stroberef04.SameTimes; results .tmp 4 -/
def r56 : RC := (.seq (.ops [⟨some 4, none, none, false, .mov (.v (.bool false))⟩]) (.seq (.ops [⟨some 5, none, none, false, .mov (.t 0)⟩,
  ⟨some 6, none, none, false, .mov (.t 1)⟩,
  ⟨some 7, none, none, false, .call 109 [(.t 5), (.t 6)]⟩,
  ⟨some 4, none, none, false, .mov (.t 7)⟩]) .ret))
theorem k56 : fnRC 56 = some ([.tmp 4], r56) := by kernel_rfl

/-- (strobe/trigger.Program).conds; results .tmp 2 -/
def r98 : RC := (.seq (.ops [⟨some 1, none, none, false, .box 25 (.t 0)⟩,
  ⟨some 2, none, none, false, .mov (.v .nils)⟩]) (.seq (.ops [⟨some 3, none, none, false, .fa 1 (.t 1)⟩,
  ⟨some 4, none, none, false, .ld1 (.t 3)⟩,
  ⟨some 5, none, none, false, .call 168 [(.t 4), (.v (.fn (.func 169) [] []))]⟩,
  ⟨some 2, none, none, false, .mov (.t 5)⟩]) .ret))
theorem k98 : fnRC 98 = some ([.tmp 2], r98) := by kernel_rfl

/-- (strobe/trigger.Program).move; results .cell 6 167,.tmp 7 -/
def r99 : RC := (.seq (.ops [⟨some 3, none, none, false, .box 25 (.t 0)⟩,
  ⟨some 4, none, none, false, .box 167 (.t 1)⟩,
  ⟨some 6, none, none, false, .al [(.int .i64 0), (.int .i64 0), (.int .i64 0)] 167⟩,
  ⟨some 7, none, none, false, .mov (.v (.bool false))⟩]) (.seq (.seq (.ops [⟨some 9, none, none, false, .fa 1 (.t 3)⟩,
  ⟨some 10, none, none, false, .ld1 (.t 9)⟩,
  ⟨some 11, none, none, false, .fa 0 (.t 4)⟩,
  ⟨some 12, none, none, false, .ld1 (.t 11)⟩,
  ⟨some 13, none, none, false, .ixa 9 (.t 10) (.t 12)⟩,
  ⟨some 14, none, none, false, .ldn 9 (.t 13)⟩,
  ⟨some 8, none, none, false, .al [(.str []), (.int .i64 0), (.int .i64 0), (.int .i64 0), (.int .i64 0), (.str []), .nils, (.int .i64 0), (.int .i64 0)] 144⟩,
  ⟨none, none, none, false, .st 9 (.t 8) (.t 14)⟩]) (.seq (.ops [⟨some 15, none, none, false, .fa 8 (.t 8)⟩,
  ⟨some 16, none, none, false, .ld1 (.t 15)⟩,
  ⟨some 17, none, none, false, .bin .gtr 3 true (.t 16) (.v (.int .i64 0))⟩]) (.cond (.t 17) (.seq (.ops [⟨some 18, none, none, false, .fa 2 (.t 4)⟩,
  ⟨some 19, none, none, false, .ld1 (.t 18)⟩,
  ⟨some 20, none, none, false, .bin .add 3 true (.t 19) (.v (.int .i64 1))⟩,
  ⟨some 21, none, none, false, .fa 2 (.t 4)⟩,
  ⟨none, none, none, false, .st 1 (.t 21) (.t 20)⟩]) (.seq (.ops [⟨some 22, none, none, false, .fa 0 (.t 4)⟩,
  ⟨some 23, none, none, false, .ld1 (.t 22)⟩,
  ⟨some 24, none, none, false, .bin .gtr 3 true (.t 23) (.v (.int .i64 0))⟩,
  ⟨some 25, none, none, false, .mov (.t 24)⟩,
  ⟨some 26, some (25, true), none, false, .fa 2 (.t 4)⟩,
  ⟨some 27, some (25, true), none, false, .ld1 (.t 26)⟩,
  ⟨some 28, some (25, true), none, false, .fa 8 (.t 8)⟩,
  ⟨some 29, some (25, true), none, false, .ld1 (.t 28)⟩,
  ⟨some 30, some (25, true), none, false, .bin .gtr 3 false (.t 27) (.t 29)⟩,
  ⟨some 31, none, none, false, .pick (.t 25) (.t 30) (.v (.bool false))⟩]) (.cond (.t 31) (.ops [⟨some 32, none, none, false, .bld [(.int .i64 0), (.int .i64 0), (.int .i64 0)] []⟩,
  ⟨none, none, none, false, .st 3 (.t 4) (.t 32)⟩]) .skip))) .skip))) (.seq (.seq (.ops [⟨some 33, none, none, false, .mov (.t 2)⟩,
  ⟨some 34, none, none, false, .fa 0 (.t 4)⟩,
  ⟨some 35, none, none, false, .ld1 (.t 34)⟩,
  ⟨some 36, none, none, false, .ixa 1 (.t 33) (.t 35)⟩,
  ⟨some 37, none, none, false, .ld1 (.t 36)⟩,
  ⟨some 38, none, none, false, .un .not (.t 37)⟩]) (.cond (.t 38) (.seq (.ops [⟨some 39, none, none, false, .ldn 3 (.t 4)⟩,
  ⟨none, none, none, false, .st 3 (.t 6) (.t 39)⟩,
  ⟨some 7, none, none, false, .mov (.v (.bool false))⟩]) .ret) .skip)) (.seq (.ops [⟨some 40, none, none, false, .fa 1 (.t 4)⟩,
  ⟨some 41, none, none, false, .ld1 (.t 40)⟩,
  ⟨some 42, none, none, false, .bin .add 3 true (.t 41) (.v (.int .i64 1))⟩,
  ⟨some 43, none, none, false, .fa 1 (.t 4)⟩,
  ⟨none, none, none, false, .st 1 (.t 43) (.t 42)⟩]) (.seq (.seq (.drw 10 [⟨some 44, none, none, false, .fa 1 (.t 4)⟩,
  ⟨some 45, none, none, false, .ld1 (.t 44)⟩,
  ⟨some 46, none, none, false, .fa 1 (.t 3)⟩,
  ⟨some 47, none, none, false, .ld1 (.t 46)⟩,
  ⟨some 48, none, none, false, .fa 0 (.t 4)⟩,
  ⟨some 49, none, none, false, .ld1 (.t 48)⟩,
  ⟨some 50, none, none, false, .ixa 9 (.t 47) (.t 49)⟩,
  ⟨some 51, none, none, false, .fa 7 (.t 50)⟩,
  ⟨some 52, none, none, false, .ld1 (.t 51)⟩,
  ⟨some 53, none, none, false, .bin .lss 3 false (.t 45) (.t 52)⟩]) (.cond (.t 53) (.seq (.ops [⟨some 54, none, none, false, .ldn 3 (.t 4)⟩,
  ⟨none, none, none, false, .st 3 (.t 6) (.t 54)⟩,
  ⟨some 7, none, none, false, .mov (.v (.bool false))⟩]) .ret) .skip)) (.seq (.seq (.ops [⟨some 55, none, none, false, .fa 0 (.t 4)⟩,
  ⟨some 56, none, none, false, .ld1 (.t 55)⟩,
  ⟨some 57, none, none, false, .bin .add 3 true (.t 56) (.v (.int .i64 1))⟩,
  ⟨some 58, none, none, false, .fa 1 (.t 3)⟩,
  ⟨some 59, none, none, false, .ld1 (.t 58)⟩,
  ⟨some 60, none, none, false, .lenL (.t 59)⟩,
  ⟨some 61, none, none, false, .bin .lss 3 false (.t 57) (.t 60)⟩]) (.cond (.t 61) (.seq (.ops [⟨some 62, none, none, false, .fa 0 (.t 4)⟩,
  ⟨some 63, none, none, false, .ld1 (.t 62)⟩,
  ⟨some 64, none, none, false, .bin .add 3 true (.t 63) (.v (.int .i64 1))⟩,
  ⟨some 65, none, none, false, .bld [(.int .i64 0), (.int .i64 0), (.int .i64 0)] [(0, 1, (.t 64))]⟩,
  ⟨none, none, none, false, .st 3 (.t 6) (.t 65)⟩,
  ⟨some 7, none, none, false, .mov (.v (.bool false))⟩]) .ret) .skip)) (.seq (.ops [⟨some 66, none, none, false, .bld [(.int .i64 0), (.int .i64 0), (.int .i64 0)] []⟩,
  ⟨none, none, none, false, .st 3 (.t 6) (.t 66)⟩,
  ⟨some 7, none, none, false, .mov (.v (.bool true))⟩]) .ret)))))))
theorem k99 : fnRC 99 = some ([.cell 6 167, .tmp 7], r99) := by kernel_rfl

def r109_l0 : RC := (.seq (.seq (.ops [⟨some 11, none, none, false, .mov (.t 5)⟩,
  ⟨some 12, none, none, false, .mov (.t 0)⟩,
  ⟨some 13, none, none, false, .lenL (.t 12)⟩,
  ⟨some 14, none, none, false, .bin .lss 3 false (.t 11) (.t 13)⟩]) (.cond (.t 14) .skip (.exit 0))) (.seq (.block 1 (.seq (.drw 9 [⟨some 17, none, none, false, .mov (.t 0)⟩,
  ⟨some 18, none, none, false, .mov (.t 5)⟩,
  ⟨some 19, none, none, false, .ixa 1 (.t 17) (.t 18)⟩,
  ⟨some 20, none, none, false, .ld1 (.t 19)⟩,
  ⟨some 21, none, none, false, .mov (.t 1)⟩,
  ⟨some 22, none, none, false, .mov (.t 5)⟩,
  ⟨some 23, none, none, false, .ixa 1 (.t 21) (.t 22)⟩,
  ⟨some 24, none, none, false, .ld1 (.t 23)⟩,
  ⟨some 25, none, none, false, .bin .neq 3 false (.t 20) (.t 24)⟩]) (.cond (.t 25) (.seq (.ops [⟨some 4, none, none, false, .mov (.v (.bool false))⟩]) .ret) .skip))) (.ops [⟨some 15, none, none, false, .mov (.t 5)⟩,
  ⟨some 16, none, none, false, .bin .add 3 true (.t 15) (.v (.int .i64 1))⟩,
  ⟨some 5, none, none, false, .mov (.t 16)⟩])))
/-- strobe/stroberef04.same; results .tmp 4 -/
def r109 : RC := (.seq (.ops [⟨some 4, none, none, false, .mov (.v (.bool false))⟩]) (.seq (.seq (.ops [⟨some 6, none, none, false, .mov (.t 0)⟩,
  ⟨some 7, none, none, false, .lenL (.t 6)⟩,
  ⟨some 8, none, none, false, .mov (.t 1)⟩,
  ⟨some 9, none, none, false, .lenL (.t 8)⟩,
  ⟨some 10, none, none, false, .bin .neq 3 false (.t 7) (.t 9)⟩]) (.cond (.t 10) (.seq (.ops [⟨some 4, none, none, false, .mov (.v (.bool false))⟩]) .ret) .skip)) (.seq (.seq (.ops [⟨some 5, none, none, false, .mov (.v (.int .i64 0))⟩]) (.block 0 (.loop r109_l0))) (.seq (.ops [⟨some 4, none, none, false, .mov (.v (.bool true))⟩]) .ret))))
theorem k109 : fnRC 109 = some ([.tmp 4], r109) := by kernel_rfl

def r168_l0 : RC := (.seq (.ops [⟨some 11, none, none, false, .bin .lss 3 false (.t 10) (.t 9)⟩]) (.seq (.cond (.t 11) .skip (.exit 0)) (.seq (.block 1 (.seq (.ops [⟨some 12, none, none, false, .ixa 9 (.t 8) (.t 10)⟩,
  ⟨some 13, none, none, false, .ldn 9 (.t 12)⟩,
  ⟨some 7, none, none, false, .al [(.str []), (.int .i64 0), (.int .i64 0), (.int .i64 0), (.int .i64 0), (.str []), .nils, (.int .i64 0), (.int .i64 0)] 144⟩,
  ⟨none, none, none, false, .st 9 (.t 7) (.t 13)⟩]) (.ops [⟨some 14, none, none, false, .mov (.t 5)⟩,
  ⟨some 15, none, none, false, .mov (.t 1)⟩,
  ⟨some 16, none, none, false, .ldn 9 (.t 7)⟩,
  ⟨some 17, none, none, false, .callv (.t 15) [(.t 16)]⟩,
  ⟨some 18, none, none, false, .bsl 48 7 1 [(.str []), (.int .i64 0), (.int .i64 0), (.int .i64 0), (.int .i64 0), (.str []), .nils] [(0, 7, (.t 17))]⟩,
  ⟨some 19, none, none, false, .app 48 7 88 (.t 14) (.t 18)⟩,
  ⟨some 5, none, none, false, .mov (.t 19)⟩]))) (.ops [⟨some 20, none, none, false, .bin .add 3 true (.t 10) (.v (.int .i64 1))⟩,
  ⟨some 10, none, none, false, .mov (.t 20)⟩]))))
/-- strobe/trigger.mapped[strobe/trigger.Step,strobe/trigger.Cond]; results .tmp 4 -/
def r168 : RC := (.seq (.ops [⟨some 4, none, none, false, .mov (.v .nils)⟩]) (.seq (.ops [⟨some 5, none, none, false, .mov (.v .nils)⟩]) (.seq (.seq (.ops [⟨some 8, none, none, false, .mov (.t 0)⟩,
  ⟨some 9, none, none, false, .lenL (.t 8)⟩,
  ⟨some 10, none, none, false, .mov (.v (.int .i64 0))⟩]) (.block 0 (.loop r168_l0))) (.seq (.ops [⟨some 21, none, none, false, .mov (.t 5)⟩,
  ⟨some 4, none, none, false, .mov (.t 21)⟩]) .ret))))
theorem k168 : fnRC 168 = some ([.tmp 4], r168) := by kernel_rfl

/-- (strobe/trigger.Program).conds$1; results .cell 2 48 -/
def r169 : RC := (.seq (.ops [⟨some 1, none, none, false, .box 144 (.t 0)⟩,
  ⟨some 2, none, none, false, .al [(.str []), (.int .i64 0), (.int .i64 0), (.int .i64 0), (.int .i64 0), (.str []), .nils] 48⟩]) (.seq (.ops [⟨some 3, none, none, false, .fa 0 (.t 1)⟩,
  ⟨some 4, none, none, false, .ldn 7 (.t 3)⟩,
  ⟨none, none, none, false, .st 7 (.t 2) (.t 4)⟩]) .ret))
theorem k169 : fnRC 169 = some ([.cell 2 48], r169) := by kernel_rfl


end Go.Am

set_option linter.all false
namespace Go.Am
open Go

/-! # The walk of a program over a signal (plain) -/

/-- where a program stands: its step, the count, the age -/
abbrev Cur := Nat × Int × Int
def mvQ (T : Nat → Int) (n : Nat) (h : Nat → Bool) (a : Nat) (k g : Int) : Cur × Bool :=
  bif !h a then ((a, k, g), false) else bif decide (k + 1 < T a) then ((a, k + 1, g), false) else bif decide ((a : Int) + 1 < n) then ((a + 1, 0, 0), false) else ((0, 0, 0), true)
def mvP (W T : Nat → Int) (n : Nat) (h : Nat → Bool) (a : Nat) (k g : Int) : Cur × Bool :=
  bif decide (W a > 0) then (bif decide ((a : Int) > 0) && decide (g + 1 > W a) then mvQ T n h 0 0 0 else mvQ T n h a k (g + 1)) else mvQ T n h a k g
def trP (W T : Nat → Int) (n : Nat) (H : Nat → Nat → Bool) : Nat → Nat → Cur → List Int
  | 0, _, _ => []
  | r + 1, t, (a, k, g) => bif (mvP W T n (H t) a k g).2 then (t : Int) :: trP W T n H r (t + 1) (mvP W T n (H t) a k g).1 else trP W T n H r (t + 1) (mvP W T n (H t) a k g).1
/-- the reference: its step, the count, the time since when -/
def rfQ (T : Nat → Int) (n : Nat) (h : Nat → Bool) (t a : Nat) (k g : Int) : Cur × Bool :=
  bif !h a then ((a, k, g), false) else bif decide (k + 1 < T a) then ((a, k + 1, g), false) else bif ((a : Int) + 1 == n) then ((0, 0, t), true) else ((a + 1, 0, t), false)
def rfP (W T : Nat → Int) (n : Nat) (h : Nat → Bool) (t a : Nat) (k g : Int) : Cur × Bool :=
  bif decide (W a > 0) && decide ((t : Int) - g > W a) then rfQ T n h t 0 0 g else rfQ T n h t a k g
def trR (W T : Nat → Int) (n : Nat) (H : Nat → Nat → Bool) : Nat → Nat → Cur → List Int
  | 0, _, _ => []
  | r + 1, t, (a, k, g) => bif (rfP W T n (H t) t a k g).2 then (t : Int) :: trR W T n H r (t + 1) (rfP W T n (H t) t a k g).1 else trR W T n H r (t + 1) (rfP W T n (H t) t a k g).1

theorem q_ok {T : Nat → Int} {n : Nat} {h : Nat → Bool} {a : Nat} {k g : Int} {t : Nat} (ha : a < n) (hk : 0 ≤ k ∧ k ≤ t) (hg : 0 ≤ g ∧ g ≤ t + 1) :
    (mvQ T n h a k g).1.1 < n ∧ (0 ≤ (mvQ T n h a k g).1.2.1 ∧ (mvQ T n h a k g).1.2.1 ≤ t + 1) ∧ (0 ≤ (mvQ T n h a k g).1.2.2 ∧ (mvQ T n h a k g).1.2.2 ≤ t + 1) := by
  unfold mvQ
  cases h a <;> simp only [Bool.not_true, Bool.not_false, cond_true, cond_false]
  · exact ⟨ha, by omega, by omega⟩
  · cases decide (k + 1 < T a) <;> simp only [cond_true, cond_false]
    · cases hn : decide ((a : Int) + 1 < n) <;> simp only [cond_true, cond_false]
      · exact ⟨by omega, by omega, by omega⟩
      · rw [decide_eq_true_eq] at hn
        exact ⟨by omega, by omega, by omega⟩
    · exact ⟨ha, by omega, by omega⟩
theorem mv_ok {W T : Nat → Int} {n : Nat} {h : Nat → Bool} {a : Nat} {k g : Int} {t : Nat} (ha : a < n) (hk : 0 ≤ k ∧ k ≤ t) (hg : 0 ≤ g ∧ g ≤ t) :
    (mvP W T n h a k g).1.1 < n ∧ (0 ≤ (mvP W T n h a k g).1.2.1 ∧ (mvP W T n h a k g).1.2.1 ≤ t + 1) ∧ (0 ≤ (mvP W T n h a k g).1.2.2 ∧ (mvP W T n h a k g).1.2.2 ≤ t + 1) := by
  unfold mvP
  cases decide (W a > 0) <;> simp only [cond_true, cond_false]
  · exact q_ok ha hk ⟨hg.1, by omega⟩
  · cases decide ((a : Int) > 0) && decide (g + 1 > W a) <;> simp only [cond_true, cond_false]
    · exact q_ok ha hk (by omega)
    · exact q_ok (by omega) (by omega) (by omega)
theorem rq_ok {T : Nat → Int} {n : Nat} {h : Nat → Bool} {a : Nat} {k g : Int} {t : Nat} (ha : a < n) (hk : 0 ≤ k ∧ k ≤ t) (hg : 0 ≤ g ∧ g ≤ t) :
    (rfQ T n h t a k g).1.1 < n ∧ (0 ≤ (rfQ T n h t a k g).1.2.1 ∧ (rfQ T n h t a k g).1.2.1 ≤ t + 1) ∧ (0 ≤ (rfQ T n h t a k g).1.2.2 ∧ (rfQ T n h t a k g).1.2.2 ≤ t + 1) := by
  unfold rfQ
  cases h a <;> simp only [Bool.not_true, Bool.not_false, cond_true, cond_false]
  · exact ⟨ha, by omega, by omega⟩
  · cases decide (k + 1 < T a) <;> simp only [cond_true, cond_false]
    · cases hn : ((a : Int) + 1 == n) <;> simp only [cond_true, cond_false]
      · have hn : ¬ ((a : Int) + 1 = n) := by simpa using hn
        exact ⟨by omega, by omega, by omega⟩
      · exact ⟨by omega, by omega, by omega⟩
    · exact ⟨ha, by omega, by omega⟩
theorem rf_ok {W T : Nat → Int} {n : Nat} {h : Nat → Bool} {a : Nat} {k g : Int} {t : Nat} (ha : a < n) (hk : 0 ≤ k ∧ k ≤ t) (hg : 0 ≤ g ∧ g ≤ t) :
    (rfP W T n h t a k g).1.1 < n ∧ (0 ≤ (rfP W T n h t a k g).1.2.1 ∧ (rfP W T n h t a k g).1.2.1 ≤ t + 1) ∧ (0 ≤ (rfP W T n h t a k g).1.2.2 ∧ (rfP W T n h t a k g).1.2.2 ≤ t + 1) := by
  unfold rfP
  cases decide (W a > 0) && decide ((t : Int) - g > W a) <;> simp only [cond_true, cond_false]
  · exact rq_ok ha hk hg
  · exact rq_ok (by omega) (by omega) (by omega)

theorem qq_eq {W T : Nat → Int} {n : Nat} {h : Nat → Bool} {a : Nat} {k g e : Int} {t : Nat} (ha : a < n) (hg : W a > 0 → g = t - e) (h0 : ¬ W 0 > 0) :
    (mvQ T n h a k g).2 = (rfQ T n h t a k e).2 ∧ (mvQ T n h a k g).1.1 = (rfQ T n h t a k e).1.1 ∧ (mvQ T n h a k g).1.2.1 = (rfQ T n h t a k e).1.2.1 ∧ (mvQ T n h a k g).1.1 < n ∧
      (W (mvQ T n h a k g).1.1 > 0 → (mvQ T n h a k g).1.2.2 = t - (rfQ T n h t a k e).1.2.2) := by
  unfold mvQ rfQ
  cases h a <;> simp only [Bool.not_true, Bool.not_false, cond_true, cond_false]
  · exact ⟨by first | rfl | trivial, by first | rfl | trivial, by first | rfl | trivial, ha, hg⟩
  · cases decide (k + 1 < T a) <;> simp only [cond_true, cond_false]
    · by_cases hn : (a : Int) + 1 < n
      · have h1 : ((a : Int) + 1 == n) = false := by simp; omega
        rw [decide_eq_true hn, h1]
        simp only [cond_true, cond_false]
        exact ⟨by first | rfl | trivial, by first | rfl | trivial, by first | rfl | trivial, by omega, fun _ => by omega⟩
      · have h1 : ((a : Int) + 1 == n) = true := by simp; omega
        rw [decide_eq_false hn, h1]
        simp only [cond_true, cond_false]
        exact ⟨by first | rfl | trivial, by first | rfl | trivial, by first | rfl | trivial, by omega, fun hw => absurd hw h0⟩
    · exact ⟨by first | rfl | trivial, by first | rfl | trivial, by first | rfl | trivial, ha, hg⟩
theorem mr_eq {W T : Nat → Int} {n : Nat} {h : Nat → Bool} {a : Nat} {k g e : Int} {t : Nat} (ha : a < n) (hg : W a > 0 → g = t - 1 - e) (h0 : ¬ W 0 > 0) :
    (mvP W T n h a k g).2 = (rfP W T n h t a k e).2 ∧ (mvP W T n h a k g).1.1 = (rfP W T n h t a k e).1.1 ∧ (mvP W T n h a k g).1.2.1 = (rfP W T n h t a k e).1.2.1 ∧ (mvP W T n h a k g).1.1 < n ∧
      (W (mvP W T n h a k g).1.1 > 0 → (mvP W T n h a k g).1.2.2 = t - (rfP W T n h t a k e).1.2.2) := by
  unfold mvP rfP
  by_cases hw : W a > 0
  · have hg := hg hw
    have hp : (a : Int) > 0 := by
      rcases Nat.eq_zero_or_pos a with h | h
      · subst h; exact absurd hw h0
      · omega
    rw [decide_eq_true hw, decide_eq_true hp]
    have e1 : decide (g + 1 > W a) = decide ((t : Int) - e > W a) := by
      congr 1; apply propext; omega
    rw [e1]
    simp only [Bool.true_and, cond_true]
    cases decide ((t : Int) - e > W a) <;> simp only [cond_true, cond_false]
    · exact qq_eq ha (fun _ => by omega) h0
    · exact qq_eq (by omega) (fun hw => absurd hw h0) h0
  · rw [decide_eq_false hw]
    simp only [Bool.false_and, cond_false]
    exact qq_eq ha (fun h => absurd h hw) h0
theorem tr_eq {W T : Nat → Int} {n : Nat} {H : Nat → Nat → Bool} (h0 : ¬ W 0 > 0) : ∀ (r t a : Nat) (k g e : Int), a < n → (W a > 0 → g = t - 1 - e) → trP W T n H r t (a, k, g) = trR W T n H r t (a, k, e)
  | 0, _, _, _, _, _, _, _ => rfl
  | r + 1, t, a, k, g, e, ha, hg => by
    obtain ⟨e1, e2, e3, e4, e5⟩ := mr_eq (T := T) (n := n) (h := H t) (k := k) ha hg h0
    rw [trP, trR, e1]
    generalize mvP W T n (H t) a k g = x at *
    generalize rfP W T n (H t) t a k e = y at *
    obtain ⟨⟨x1, x2, x3⟩, xb⟩ := x
    obtain ⟨⟨y1, y2, y3⟩, yb⟩ := y
    simp only at e1 e2 e3 e4 e5 ⊢
    subst e2 e3
    have ih := tr_eq (T := T) (H := H) h0 r (t + 1) x1 x2 x3 y3 e4 fun hw => by rw [e5 hw]; omega
    rw [ih]
/-- the steps' bounds -/
def Wn (S : List Step) (i : Nat) : Int := match S[i]? with
  | some s => s.within
  | none => 0
def Tm (S : List Step) (i : Nat) : Int := match S[i]? with
  | some s => s.times
  | none => 0
end Go.Am

set_option linter.all false
namespace Go.Am
open Go
variable [MaxLen]
set_option maxRecDepth 100000
set_option maxHeartbeats 4000000

/-! # A step of a program -/
def encCur (c : Cur) : AV := .agg [.int .i64 c.1, .int .i64 c.2.1, .int .i64 c.2.2]
def atB (hs : List Bool) (i : Nat) : Bool := hs.getD i false
theorem ixa_bool {nh : Bool} {hs : List Bool} {a : Nat} (h : a < hs.length) : ixRA 1 (encS nh (bools hs)) (.int .i64 (a : Int)) = some (.fp [.bool (atB hs a)] 0) := by
  refine ixa_encS 1 nh (bools hs) .i64 a (.bool (atB hs a)) (by omega) ?_ rfl (by decide)
  rw [Int.toNat_natCast]
  simp [bools, atB, List.getD_eq_getElem?_getD, List.getElem?_eq_getElem h]
theorem ixa_step {nl : Bool} {l : List Step} {a : Nat} (h : a < l.length) : ixRA 9 (encS nl (encSteps l)) (.int .i64 (a : Int)) = some (.fp l[a].cells9 0) := by
  refine ixa_encS 9 nl (encSteps l) .i64 a (encStep l[a]) (by omega) ?_ rfl (by decide)
  rw [Int.toNat_natCast, encSteps_get, List.getElem?_eq_getElem h]; rfl
theorem Wn_at {l : List Step} {a : Nat} (h : a < l.length) : Wn l a = l[a].within := by unfold Wn; rw [List.getElem?_eq_getElem h]
theorem Tm_at {l : List Step} {a : Nat} (h : a < l.length) : Tm l a = l[a].times := by unfold Tm; rw [List.getElem?_eq_getElem h]

theorem c99 (p : Prog) (hs : List Bool) (nh : Bool) (a : Nat) (k g : Int) (ha : a < p.steps.length) (hh : hs.length = p.steps.length) (hl : p.steps.length < 2 ^ 30) (hk : 0 ≤ k ∧ k ≤ 2 ^ 40) (hg : 0 ≤ g ∧ g ≤ 2 ^ 40) :
    calV U 99 [encP p, encCur (a, k, g), encS nh (bools hs)] = some (.tup [encCur (mvP (Wn p.steps) (Tm p.steps) p.steps.length (atB hs) a k g).1, .bool (mvP (Wn p.steps) (Tm p.steps) p.steps.length (atB hs) a k g).2]) := by
  refine pure_go k99 (by kernel_rfl) (by simp [stills, still_encP, encCur, still, still_encS]) ?_
  have hx := ixa_step (nl := p.nl) ha
  have h0 : 0 < p.steps.length := by omega
  have hx0 : ixRA 9 (encS p.nl (encSteps p.steps)) (.int .i64 0) = some (.fp p.steps[0].cells9 0) := ixa_step (nl := p.nl) h0
  have hb := ixa_bool (nh := nh) (hs := hs) (a := a) (by omega)
  have hb0 : ixRA 1 (encS nh (bools hs)) (.int .i64 0) = some (.fp [.bool (atB hs 0)] 0) := ixa_bool (nh := nh) (hs := hs) (a := 0) (by omega)
  have w1 : IntKind.i64.wrap (g + 1) = g + 1 := by rw [wrap_i64] <;> omega
  have w2 : IntKind.i64.wrap (k + 1) = k + 1 := by rw [wrap_i64] <;> omega
  have w3 : IntKind.i64.wrap ((a : Int) + 1) = (a : Int) + 1 := by rw [wrap_i64] <;> omega
  rw [encP_eq]
  simp only [encCur, Step.cells9] at hx hx0 ⊢
  unfold mvP mvQ
  rw [Wn_at ha, Tm_at ha, Tm_at h0]
  generalize p.steps[a] = x at *
  generalize p.steps[0] = y at *
  have w4 : IntKind.i64.wrap 1 = 1 := by rw [wrap_i64] <;> omega
  cases h1 : decide (x.within > 0) <;> cases h2 : decide ((a : Int) > 0) <;> cases h3 : decide (g + 1 > x.within)
  all_goals simp (config := { maxSteps := 2000000 }) +contextual only [go_sem, ↓reduceIte, r99, noAgg_encS, cells_encS, hx, hb, hx0, hb0, w1, w2, w3, w4, h1, h2, h3, lenL_encS, encSteps_len, Bool.and_true, Bool.and_false, cond_true, cond_false]
  all_goals first
    | (cases atB hs a <;> cases decide (k + 1 < x.times) <;> cases decide ((a : Int) + 1 < p.steps.length) <;> rfl)
    | (rw [show (((0 : Nat) : Int) + 1) = 1 from rfl]; cases atB hs 0 <;> cases decide (1 < y.times) <;> cases decide ((1 : Int) < p.steps.length) <;> rfl)
end Go.Am

set_option linter.all false
namespace Go.Am
open Go
variable [MaxLen]

/-! # The plain law of TriggerTimes -/

theorem outs_eq (l : List Int) (t : Nat) : ∀ C : List Cond, (∀ c ∈ C, c.wf) → outs C ((lvsL C).map (atR l t)) = C.map (atR l t)
  | [], _ => rfl
  | c :: C, h => by
    have hd : ((lvs c).map (atR l t) ++ (lvsL C).map (atR l t)).drop (lvs c).length = (lvsL C).map (atR l t) := by
      rw [← List.length_map (f := atR l t), List.drop_left]
    rw [lvsL, List.map_append, outs, jd_eq l t c (h c (List.mem_cons_self ..)), hd, outs_eq l t C fun x hx => h x (List.mem_cons_of_mem _ hx), List.map_cons]
theorem lvsL_ok {C : List Cond} (h : ∀ c ∈ C, c.wf) : ∀ c ∈ lvsL C, c.wf ∧ (kdOf c.kind).leaf = true := fun c hc => by
  obtain ⟨x, h1, h2⟩ := lvsL_mem hc
  exact lvs_leaf x (h x h1) c h2

def Ha (l : List Int) (S : List Step) (t i : Nat) : Bool := match S[i]? with
  | some s => atR l t s.cond
  | none => false
def trigsR (l : List Int) (S : List Step) : List Int := trR (Wn S) (Tm S) S.length (Ha l S) l.length 0 (0, 0, 0)
def trigsP (l : List Int) (S : List Step) : List Int := trP (Wn S) (Tm S) S.length (Ha l S) l.length 0 (0, 0, 0)
theorem trigs_eq (l : List Int) (S : List Step) (h0 : ¬ Wn S 0 > 0) (hn : 0 < S.length) : trigsP l S = trigsR l S :=
  tr_eq h0 _ _ _ _ _ _ hn fun h => absurd h h0
theorem norm_at (l : List Int) (S : List Step) : Wn (S.map Step.norm) = Wn S ∧ Tm (S.map Step.norm) = Tm S ∧ Ha l (S.map Step.norm) = Ha l S := by
  refine ⟨?_, ?_, ?_⟩
  · funext i; unfold Wn; rw [List.getElem?_map]; cases S[i]? <;> rfl
  · funext i; unfold Tm; rw [List.getElem?_map]; cases S[i]? <;> rfl
  · funext t i; unfold Ha; rw [List.getElem?_map]; cases S[i]? with
    | none => rfl
    | some s => exact atR_norm l t s.cond
theorem trigsP_norm (l : List Int) (S : List Step) : trigsP l (S.map Step.norm) = trigsP l S := by
  obtain ⟨e1, e2, e3⟩ := norm_at l S
  unfold trigsP
  rw [e1, e2, e3, List.length_map]
end Go.Am

set_option linter.all false
namespace Go.Am
open Go
variable [MaxLen]
set_option maxRecDepth 100000
set_option maxHeartbeats 4000000

/-! # The conditions of a program's steps -/

theorem c169 (x : Step) : calV U 169 [encStep x] = some (encC x.cond) := by
  refine pure_go k169 (by kernel_rfl) (by simp [stills, encStep, still, still_encS]) ?_
  rw [encC_cells]
  simp only [encStep, Cond.cells]
  simp (config := { maxSteps := 2000000 }) +contextual only [go_sem, ↓reduceIte, r169, noAgg_encS, cells_encS, frz_encS]
theorem cv169 (x : Step) (s : St) : calv U (.fn (.func 169) [] []) [encStep x] s = some (encC x.cond, s) := by
  simp only [calv_fn, List.nil_append, List.append_nil, c169, callK_some]
theorem c168 (nl : Bool) (l : List Step) (hl : l.length < 2 ^ 30) : calV U 168 [encS nl (encSteps l), .fn (.func 169) [] []] = some (encS true ((l.map Step.cond).map encC)) := by
  refine pure_go k168 (by kernel_rfl) (by simp [stills, still, still_encS]) ?_
  simp (config := { maxSteps := 2000000 }) +contextual only [go_sem, ↓reduceIte, r168, lenL_encS, encSteps_len]
  refine loop_to (σ := Nat) (fun i => l.length - i) (fun i => some (encS true ((l.map Step.cond).map encC))) (fun i e s => i ≤ l.length ∧ Env.get e 1 = .fn (.func 169) [] [] ∧ Env.get e 8 = encS nl (encSteps l) ∧ Env.get e 9 = .int .i64 l.length ∧ Env.get e 10 = .int .i64 i ∧ 8 ≤ s.next ∧ Fr s ∧
    ∃ v, Env.get e 5 = v ∧ RowI s 8 48 7 i (condCells ((l.take i).map Step.cond)) v) 0 ?_ rfl ?_
  · rintro L i e s ⟨hi, g1, g8, g9, g10, hn, hfr, v, g5, hv⟩ IH
    have hla := hv.lenA
    have hna := hv.noAgg
    by_cases hd : i < l.length
    · have hx : (encSteps l)[i]? = some (encStep l[i]) := by rw [encSteps_get, List.getElem?_eq_getElem hd]; rfl
      have hw := wrap_succ hd (by omega)
      have hc := cv169 l[i]
      rw [encC_cells] at hc
      rw [encS_ne (encSteps_ne hd)] at g8
      simp only [Cond.cells, encStep] at hx hc
      have hb1 : (i + 1) * 88 ≤ 1099511627776 := by omega
      have hb2 : i + 1 ≤ 1099511627776 := by omega
      have htk : condCells ((l.take (i + 1)).map Step.cond) = condCells ((l.take i).map Step.cond) ++ l[i].cond.cells := by
        rw [List.take_succ_eq_append_getElem hd, List.map_append, condCells, List.flatMap_append, List.map_singleton, List.flatMap_singleton, encC_cells]; rfl
      simp only [Cond.cells] at htk
      simp +contextual only [go_sem, ↓reduceIte, r168_l0, g1, g5, g8, g9, g10, nat_lt_dec, hd, hx, hc, noAgg_encS, cells_encS, appK_some, Nat.reducePow, Nat.one_mul, hla, hna, hb1, hb2]
      have hv0 : ∀ y z w, RowI (((s.new y).put s.next z).new w) 8 48 7 i (condCells ((l.take i).map Step.cond)) v := fun y z w => hv.mono (by rw [next_new, next_put, next_new]; omega) fun j _ hj => by rw [get_new, next_put, next_new, if_neg (by omega), get_put, if_neg (by omega), get_new, if_neg (by omega)]
      obtain ⟨s1, f1, f2, f3, f4, f5⟩ := (hv0 (.cells [.str [], .int .i64 0, .int .i64 0, .int .i64 0, .int .i64 0, .str [], .nils, .int .i64 0, .int .i64 0] 144 false 0 0) (.cells l[i].cells9 144 false 0 0) (.cells l[i].cond.cells 48 false 0 0)).app2 (by rw [next_new, next_put, next_new]; omega) (m := 1) (new := l[i].cond.cells) (by omega) (by rfl) (by simp only [Cond.cells, go_sem, noAgg_encS])
      simp only [Cond.cells, Step.cells9] at f1 f2 f3
      rw [f1]
      simp +contextual only [go_sem, ↓reduceIte, g10, hw]
      rw [← htk] at f3
      refine IH (i + 1) _ _ (by omega) ⟨by omega, ?_, ?_, ?_, ?_, ?_, f5 (((hfr.new _).put (by rw [next_new]; omega) _).new _), _, ?_, f3⟩
      all_goals simp +contextual only [go_sem, ↓reduceIte, g1, g8, g9, hw, f2, encS_ne (encSteps_ne hd)]
      all_goals omega
    · have : i = l.length := by omega
      subst this
      rw [List.take_length] at hv
      have hv1 : RowI s 8 48 7 (l.map Step.cond).length (condCells (l.map Step.cond)) v := by rw [List.length_map]; exact hv
      have hfz := hv1.frz_agg U ag_48 sz_48 (by omega) encC_agg (d := 39) (fun a => frz_encC _ _ _)
      simp +contextual only [go_sem, ↓reduceIte, r168_l0, g5, g8, g9, g10, nat_lt_dec, Nat.lt_irrefl, hna, hfz]
  · refine ⟨Nat.zero_le _, ?_, ?_, ?_, ?_, ?_, ?_, .nils, ?_, RowI.nil _ _ _ _⟩
    all_goals try simp +contextual only [go_sem, ↓reduceIte]
    all_goals first | rfl | exact Fr.own | skip
theorem c98 (p : Prog) (hl : p.steps.length < 2 ^ 30) : calV U 98 [encP p] = some (encS true ((p.steps.map Step.cond).map encC)) := by
  refine pure_go k98 (by kernel_rfl) (by simp [stills, still_encP]) ?_
  have := c168 p.nl p.steps hl
  rw [encP_eq]
  simp (config := { maxSteps := 2000000 }) +contextual only [go_sem, ↓reduceIte, r98, this, noAgg_encS, cells_encS, frz_encS]
end Go.Am

set_option linter.all false
namespace Go.Am
open Go
variable [MaxLen]
set_option maxRecDepth 100000
set_option maxHeartbeats 4000000

/-! # The program's Triggers: the loop over the signal -/

/-- the times, as the machine and the cursor tell them -/
def runT (l : List Int) (S : List Step) : Nat → Nat → List Int → Cur → List Int
  | 0, _, _, _ => []
  | n + 1, i, sts, (a, k, g) =>
    bif (mvP (Wn S) (Tm S) S.length (atB (outs (S.map Step.cond) (holdL (atI l (i : Int)) (befI l (i : Int)) ((i : Int) == 0) (lvsL (S.map Step.cond)) sts))) a k g).2 then
      (i : Int) :: runT l S n (i + 1) (nextL (atI l (i : Int)) (befI l (i : Int)) ((i : Int) == 0) (lvsL (S.map Step.cond)) sts) (mvP (Wn S) (Tm S) S.length (atB (outs (S.map Step.cond) (holdL (atI l (i : Int)) (befI l (i : Int)) ((i : Int) == 0) (lvsL (S.map Step.cond)) sts))) a k g).1
    else runT l S n (i + 1) (nextL (atI l (i : Int)) (befI l (i : Int)) ((i : Int) == 0) (lvsL (S.map Step.cond)) sts) (mvP (Wn S) (Tm S) S.length (atB (outs (S.map Step.cond) (holdL (atI l (i : Int)) (befI l (i : Int)) ((i : Int) == 0) (lvsL (S.map Step.cond)) sts))) a k g).1
def trigsM (l : List Int) (S : List Step) : List Int := runT l S l.length 0 ((lvsL (S.map Step.cond)).map startI) (0, 0, 0)
theorem atB_Ha (l : List Int) (S : List Step) (t : Nat) : atB ((S.map Step.cond).map (atR l t)) = Ha l S t := by
  funext i
  unfold atB Ha
  rw [List.getD_eq_getElem?_getD, List.map_map, List.getElem?_map]
  cases S[i]? <;> rfl
theorem runT_eq (l : List Int) (S : List Step) (hw : ∀ s ∈ S, s.cond.wf) : ∀ (n i : Nat) (c : Cur), runT l S n i ((lvsL (S.map Step.cond)).map fun x => preS l x i) c = trP (Wn S) (Tm S) S.length (Ha l S) n i c
  | 0, _, _ => rfl
  | n + 1, i, (a, k, g) => by
    have hC : ∀ c ∈ S.map Step.cond, c.wf := fun c hc => by
      obtain ⟨s, hs, rfl⟩ := List.mem_map.1 hc
      exact hw s hs
    obtain ⟨e1, e2⟩ := holdL_map l i _ (lvsL_ok hC)
    rw [runT, e1, e2, outs_eq l i _ hC, atB_Ha, runT_eq l S hw n (i + 1), trP]
theorem trigsM_eq (l : List Int) (S : List Step) (hw : ∀ s ∈ S, s.cond.wf) : trigsM l S = trigsP l S := runT_eq l S hw l.length 0 (0, 0, 0)
theorem outs_lenS (S : List Step) (B : List Bool) : (outs (S.map Step.cond) B).length = S.length := by rw [outs_len, List.length_map]

theorem l32 (nl : Bool) (l : List Int) (hl : okSig l) (p : Prog) (hne : 0 < p.steps.length) (hn : p.steps.length ≤ 8) (hwf : ∀ s ∈ p.steps, s.cond.wf) (hL : (lvsL (p.steps.map Step.cond)).length ≤ 2 ^ 20) {ks : List K} (sm : St) (m : Nat) (hm8 : 8 < m) (hmn : sm.next = m + 2) (v lv sv : AV)
    (hm : ∀ s', (∀ j, j ≤ m → s'.get j = sm.get j) → m < s'.next → frz U s' 40 (.agg [v, lv, sv]) = some (.agg [.fz ((p.steps.map Step.cond).map encC), .fz ((lvsL (p.steps.map Step.cond)).map encC), .fz ((lvsL (p.steps.map Step.cond)).map stepV)]))
    (gp : sm.get 8 = some (.cells [.int .i64 p.lines, encS p.nl (encSteps p.steps)] 25 false 0 0)) (gm : sm.get m = some (.cells [v, lv, sv] 152 false 0 0)) (ga : sm.get (m + 1) = some (.cells [.int .i64 0, .int .i64 0, .int .i64 0] 167 false 0 0)) (frm : Fr sm) {r : Option AV}
    (hlv : still lv = false) (hk : ∀ e s w, Env.get e 10 = w → RowI s (m + 2) 3 1 (trigsM l p.steps).length (ints (trigsM l p.steps)) w → goN U (finP U [.tmp 4, .tmp 5]) ks e s = r) {e : Env} {stv : AV}
    (hst0 : ∀ s', (∀ j, j ≤ m → s'.get j = sm.get j) → m < s'.next → frz U s' 40 stv = some (.fz (ints ((lvsL (p.steps.map Step.cond)).map startI))))
    (g1 : Env.get e 1 = encS nl (ints l)) (g2 : Env.get e 2 = .ptr 8 0) (g8 : Env.get e 8 = .ptr m 0) (g9 : Env.get e 9 = stv) (g10 : Env.get e 10 = .nils) (g11 : Env.get e 11 = .ptr (m + 1) 0) (g36 : Env.get e 36 = encS nl (ints l)) (g37 : Env.get e 37 = .int .i64 l.length) (g38 : Env.get e 38 = .int .i64 (0 : Nat)) :
    goL U (finP U [.tmp 4, .tmp 5]) (.bk 0 :: ks) r32_l0 e sm = r := by
  have hlen := hl.1
  have hCw : ∀ c ∈ p.steps.map Step.cond, c.wf := fun c hc => by
    obtain ⟨s, hs, rfl⟩ := List.mem_map.1 hc
    exact hwf s hs
  have hlw := lvsL_ok hCw
  refine loop_ex (σ := Nat) (Post := fun (x : Option AV) => x = r) (fun i => l.length - i) (fun i e s => i ≤ l.length ∧ Env.get e 1 = encS nl (ints l) ∧ Env.get e 2 = .ptr 8 0 ∧ Env.get e 8 = .ptr m 0 ∧ Env.get e 11 = .ptr (m + 1) 0 ∧ Env.get e 36 = encS nl (ints l) ∧ Env.get e 37 = .int .i64 l.length ∧ Env.get e 38 = .int .i64 (i : Nat) ∧
    Fr s ∧ m + 2 ≤ s.next ∧ (∀ j, j ≤ m → s.get j = sm.get j) ∧
    ∃ stv sts ov acc a k g, Env.get e 9 = stv ∧ Env.get e 10 = ov ∧ s.get (m + 1) = some (.cells [.int .i64 (a : Nat), .int .i64 k, .int .i64 g] 167 false 0 0) ∧ (∀ s', (∀ j, j ≤ m → s'.get j = sm.get j) → m < s'.next → frz U s' 40 stv = some (.fz (ints sts))) ∧ sts.length = (lvsL (p.steps.map Step.cond)).length ∧ (∀ x ∈ sts, 0 ≤ x ∧ x ≤ 256) ∧
      a < p.steps.length ∧ (0 ≤ k ∧ k ≤ (i : Int)) ∧ (0 ≤ g ∧ g ≤ (i : Int)) ∧ acc.length ≤ i ∧ RowI s (m + 2) 3 1 acc.length (ints acc) ov ∧ acc ++ runT l p.steps (l.length - i) i sts (a, k, g) = trigsM l p.steps) 0 ?_
    ⟨Nat.zero_le _, g1, g2, g8, g11, g36, g37, g38, frm, by omega, fun _ _ => rfl, stv, _, .nils, [], 0, 0, 0, g9, g10, ga, hst0, by simp, fun x hx => by
      obtain ⟨y, hy, rfl⟩ := List.mem_map.1 hx
      exact startI_ok (hlw y hy).1.stp, hne, by omega, by omega, Nat.zero_le _, RowI.nil _ _ _ _, rfl⟩
  clear g1 g2 g8 g9 g10 g11 g36 g37 g38 hst0 e stv
  rintro Lp i e s ⟨hi, g1, g2, g8, g11, g36, g37, g38, fr, nx, old, stv, sts, ov, acc, a, k, g, g9, g10, gc, hst, hsl, hsb, ha, hk1, hg1, hacc, hv, hrun⟩ IH
  by_cases hd : i < l.length
  · have hw := wrap_succ hd (by omega)
    have hw' : IntKind.i64.wrap ((i : Int) - 1) = (i : Int) - 1 := by rw [wrap_i64] <;> omega
    have hmx : max 0 ((i : Int) - 1) = ((i - 1 : Nat) : Int) := by omega
    have hx1 := ixa_sigN (nl := nl) hd
    have hx2 := ixa_sigN (nl := nl) (l := l) (t := i - 1) (by omega)
    rw [← hmx] at hx2
    have hbf : atI l (max 0 ((i : Int) - 1)) = befI l (i : Int) := rfl
    rw [hbf] at hx2
    have gms : s.get m = some (.cells [v, lv, sv] 152 false 0 0) := by rw [old m (Nat.le_refl _), gm]
    have gps : s.get 8 = some (.cells [.int .i64 p.lines, encS p.nl (encSteps p.steps)] 25 false 0 0) := by rw [old 8 (by omega), gp]
    have hgood : ∀ j, j ≤ m → (s.upto (s.next + 18)).get j = sm.get j := fun j hj => by rw [upto_get, old j hj]
    have hnx : m < (s.upto (s.next + 18)).next := by rw [upto_next]; omega
    have hcall : callK U (calV U 93 [.agg [v, lv, sv], stv, .agg [.int .i64 (atI l (i : Int)), .int .i64 (befI l (i : Int)), .bool ((i : Int) == 0)]]) 93 [.agg [v, lv, sv], stv, .agg [.int .i64 (atI l (i : Int)), .int .i64 (befI l (i : Int)), .bool ((i : Int) == 0)]] (s.upto (s.next + 18)) =
        some (.tup [.fz (ints (nextL (atI l (i : Int)) (befI l (i : Int)) ((i : Int) == 0) (lvsL (p.steps.map Step.cond)) sts)), encS true (bools (outs (p.steps.map Step.cond) (holdL (atI l (i : Int)) (befI l (i : Int)) ((i : Int) == 0) (lvsL (p.steps.map Step.cond)) sts)))], s.upto (s.next + 18)) := by
      rw [z93 (by simp [stills, still, hlv])]
      have e1 := hm _ hgood hnx
      have e2 := hst _ hgood hnx
      have e3 : mapO (frz U (s.upto (s.next + 18)) 40) [.agg [v, lv, sv], stv, .agg [.int .i64 (atI l (i : Int)), .int .i64 (befI l (i : Int)), .bool ((i : Int) == 0)]] =
          some [.agg [.fz ((p.steps.map Step.cond).map encC), .fz ((lvsL (p.steps.map Step.cond)).map encC), .fz ((lvsL (p.steps.map Step.cond)).map stepV)], .fz (ints sts), .agg [.int .i64 (atI l (i : Int)), .int .i64 (befI l (i : Int)), .bool ((i : Int) == 0)]] := by
        rw [mapO_cons, e1, mapO_cons, e2, mapO_cons, mapO_nil, frz_agg]
        rfl
      rw [e3]
      have hz := cz93 (p.steps.map Step.cond) sts (atI l (i : Int)) (befI l (i : Int)) ((i : Int) == 0) hCw (by rw [List.length_map]; omega) hsb hsl hL (atI_ok hl _) (atI_ok hl _) (s.upto (s.next + 18))
      rw [encSm] at hz
      rw [hz]
    have c99' := c99 p (outs (p.steps.map Step.cond) (holdL (atI l (i : Int)) (befI l (i : Int)) ((i : Int) == 0) (lvsL (p.steps.map Step.cond)) sts)) true a k g ha (outs_lenS _ _) (by omega) (by omega) (by omega)
    have ok := mv_ok (W := Wn p.steps) (T := Tm p.steps) (n := p.steps.length) (h := atB (outs (p.steps.map Step.cond) (holdL (atI l (i : Int)) (befI l (i : Int)) ((i : Int) == 0) (lvsL (p.steps.map Step.cond)) sts))) (t := i) ha hk1 hg1
    have hla := hv.lenA
    have hna := hv.noAgg
    have hb1 : (acc.length + 1) * 8 ≤ 1099511627776 := by omega
    have hb2 : acc.length + 1 ≤ 1099511627776 := by omega
    rw [show l.length - i = (l.length - (i + 1)) + 1 by omega, runT] at hrun
    rw [encP_eq] at c99'
    simp only [encCur] at c99'
    generalize mvP (Wn p.steps) (Tm p.steps) p.steps.length (atB (outs (p.steps.map Step.cond) (holdL (atI l (i : Int)) (befI l (i : Int)) ((i : Int) == 0) (lvsL (p.steps.map Step.cond)) sts))) a k g = mv at *
    obtain ⟨⟨a', k', g'⟩, fires⟩ := mv
    simp only at c99' ok hrun
    have ne1 : ∀ q, (s.next + q = m) = False := fun q => by simp; omega
    have ne2 : ∀ q, (s.next + q = m + 1) = False := fun q => by simp; omega
    have hS : ∀ x y z j, j < s.next → j ≠ m + 1 → (((((s.upto (s.next + 18)).new x).put (s.next + 18) y).upto (s.next + 18 + 1 + 4)).put (m + 1) z).get j = s.get j := fun x y z j hj hjm => by
      rw [get_put, if_neg (by omega), upto_get, get_put, if_neg (by omega), get_new, upto_next, if_neg (by omega), upto_get]
    have hSn : ∀ x y z, (((((s.upto (s.next + 18)).new x).put (s.next + 18) y).upto (s.next + 18 + 1 + 4)).put (m + 1) z).next = s.next + 23 := fun x y z => by rw [next_put, upto_next]
    have hSf : ∀ x y z, Fr (((((s.upto (s.next + 18)).new x).put (s.next + 18) y).upto (s.next + 18 + 1 + 4)).put (m + 1) z) := fun x y z =>
      ((((fr.upto (by omega)).new _).put (by rw [next_new, upto_next]; omega) _).upto (by rw [next_put, next_new, upto_next]; omega)).put (by rw [upto_next]; omega) _
    have hSc : ∀ x y z, (((((s.upto (s.next + 18)).new x).put (s.next + 18) y).upto (s.next + 18 + 1 + 4)).put (m + 1) z).get (m + 1) = some z := fun x y z => by rw [get_put, if_pos rfl]
    have hv0 : ∀ x y z, RowI (((((s.upto (s.next + 18)).new x).put (s.next + 18) y).upto (s.next + 18 + 1 + 4)).put (m + 1) z) (m + 2) 3 1 acc.length (ints acc) ov := fun x y z => hv.mono (by rw [hSn]; omega) fun j h1 h2 => hS x y z j h2 (by omega)
    have hstN : ∀ s', (∀ j, j ≤ m → s'.get j = sm.get j) → m < s'.next → frz U s' 40 (.fz (ints (nextL (atI l (i : Int)) (befI l (i : Int)) ((i : Int) == 0) (lvsL (p.steps.map Step.cond)) sts))) = some (.fz (ints (nextL (atI l (i : Int)) (befI l (i : Int)) ((i : Int) == 0) (lvsL (p.steps.map Step.cond)) sts))) := fun s' _ _ => rfl
    have hnl := nextL_len (atI l (i : Int)) (befI l (i : Int)) ((i : Int) == 0) (lvsL (p.steps.map Step.cond)) sts hsl
    have hno := nextL_ok (now := atI l (i : Int)) (last := befI l (i : Int)) (first := ((i : Int) == 0)) (fun x hx => (hlw x hx).1.stp) hsb
    cases fires
    all_goals simp (config := { maxSteps := 2000000 }) +contextual only [go_sem, ↓reduceIte, r32_l0, g1, g2, g8, g9, g10, g11, g36, g37, g38, nat_lt_dec, hd, hx1, hx2, hw', gms, gps, gc, maxOp_1 50 ((i : Int) - 1), hcall, c99', appK_some, Nat.reducePow, Nat.one_mul, hla, hna, hb1, hb2, noAgg_encS, ne1, ne2, hw]
    · simp only [cond_false] at hrun
      refine IH (i + 1) _ _ (by omega) ⟨by omega, ?_, ?_, ?_, ?_, ?_, ?_, ?_, hSf _ _ _, by rw [hSn]; omega, fun j hj => by rw [hS _ _ _ _ (by omega) (by omega), old j hj], _, _, ov, acc, a', k', g', ?_, ?_, hSc _ _ _, hstN, hnl, hno, ok.1, by omega, by omega, by omega, hv0 _ _ _, hrun⟩
      all_goals simp +contextual only [go_sem, ↓reduceIte, g1, g2, g8, g10, g11, g36, g37, hw]
    · simp only [cond_true] at hrun
      generalize hA : Blk.cells [.int .i64 0, .int .i64 0, .int .i64 0] 167 false 0 0 = A
      generalize hB : Blk.cells [.int .i64 (a' : Int), .int .i64 k', .int .i64 g'] 167 false 0 0 = B
      have hv1 : RowI (((((((s.upto (s.next + 18)).new A).put (s.next + 18) B).upto (s.next + 18 + 1 + 4)).put (m + 1) B)).new (.cells [.int .i64 (i : Int)] 3 false 0 0)) (m + 2) 3 1 acc.length (ints acc) ov := (hv0 A B B).mono (by rw [next_new]; omega) fun j _ hj => by rw [get_new, if_neg (by omega)]
      have hL1 : acc.length + 1 = (acc ++ [(i : Int)]).length := by simp
      have hI1 : ints acc ++ [.int .i64 (i : Int)] = ints (acc ++ [(i : Int)]) := by rw [ints, ints, List.map_append]; rfl
      obtain ⟨s1, f1, f2, f3, f4, f5⟩ := hv1.app2 (by rw [next_new, hSn]; omega) (m := 1) (new := [.int .i64 (i : Int)]) (by omega) (by rfl) (by rfl)
      rw [f1]
      simp +contextual only [go_sem, ↓reduceIte, g38, hw]
      rw [hI1, hL1] at f3
      rw [List.append_cons] at hrun
      have low : ∀ j, j < m + 2 → s1.get j = (((((s.upto (s.next + 18)).new A).put (s.next + 18) B).upto (s.next + 18 + 1 + 4)).put (m + 1) B).get j := fun j hj => by
        rw [f4 j (by rw [next_new, hSn]; omega) (hv1.far (.inr hj)), get_new, hSn, if_neg (by omega)]
      refine IH (i + 1) _ _ (by omega) ⟨by omega, ?_, ?_, ?_, ?_, ?_, ?_, ?_, f5 ((hSf _ _ _).new _), by rw [f2, next_new, hSn]; omega, fun j hj => by rw [low j (by omega), hS _ _ _ _ (by omega) (by omega), old j hj], _, _, _, acc ++ [(i : Int)], a', k', g', ?_, ?_, by rw [low _ (by omega), hSc, ← hB], hstN, hnl, hno, ok.1, by omega, by omega, by rw [List.length_append]; simp; omega, f3, hrun⟩
      all_goals simp +contextual only [go_sem, ↓reduceIte, g1, g2, g8, g11, g36, g37, hw, hL1]
  · have : i = l.length := by omega
    subst this
    rw [Nat.sub_self, runT, List.append_nil] at hrun
    subst hrun
    simp +contextual only [go_sem, ↓reduceIte, r32_l0, g37, g38, nat_lt_dec, Nat.lt_irrefl]
    refine hk _ _ ov ?_ hv
    simp +contextual only [go_sem, ↓reduceIte, g10]
end Go.Am

set_option linter.all false
namespace Go.Am
open Go
variable [MaxLen]
set_option maxRecDepth 100000
set_option maxHeartbeats 4000000

/-! # Lists of times -/

def sameI : List Int → List Int → Bool
  | [], [] => true
  | x :: a, y :: b => bif x != y then false else sameI a b
  | _, _ => false
theorem sameI_len : ∀ {a b : List Int}, a.length ≠ b.length → sameI a b = false
  | [], [], h => absurd rfl h
  | [], _ :: _, _ => rfl
  | _ :: _, [], _ => rfl
  | a :: x, b :: y, h => by
    rw [sameI, sameI_len (fun e => h (by simp [e]))]
    cases a != b <;> rfl
theorem sameI_refl : ∀ a : List Int, sameI a a = true
  | [] => rfl
  | a :: x => by rw [sameI, sameI_refl x]; simp
theorem c109 (na nb : Bool) (a b : List Int) (ha : a.length < 2 ^ 62) : calV U 109 [encS na (ints a), encS nb (ints b)] = some (.bool (sameI a b)) := by
  refine pure_go k109 (by kernel_rfl) (by simp [stills, still_encS, still]) ?_
  simp (config := { maxSteps := 2000000 }) +contextual only [go_sem, ↓reduceIte, r109, lenL_encS, ints_len]
  cases hl : ((a.length : Int) != (b.length : Int)) with
  | true =>
    have : a.length ≠ b.length := by simp at hl; omega
    rw [sameI_len this]
    simp +contextual only [go_sem, ↓reduceIte]
  | false =>
    have hl : a.length = b.length := by simp at hl; omega
    simp +contextual only [go_sem, ↓reduceIte]
    refine loop_to (σ := Nat) (fun i => a.length - i) (fun i => some (AV.bool (sameI (a.drop i) (b.drop i)))) (fun i e s => i ≤ a.length ∧ Env.get e 0 = encS na (ints a) ∧ Env.get e 1 = encS nb (ints b) ∧ Env.get e 5 = .int .i64 i) 0 ?_ rfl ?_
    · rintro L i e s ⟨hi, g0, g1, g5⟩ ih
      by_cases hd : i < a.length
      · have hd' : i < b.length := by omega
        have hx : ixRA 1 (encS na (ints a)) (.int .i64 (i : Int)) = some (.fp [.int .i64 a[i]] 0) := ixa_encS 1 na (ints a) .i64 i (.int .i64 a[i]) (by omega) (by rw [Int.toNat_natCast, ints_get, List.getElem?_eq_getElem hd]; rfl) rfl (by decide)
        have hy : ixRA 1 (encS nb (ints b)) (.int .i64 (i : Int)) = some (.fp [.int .i64 b[i]] 0) := ixa_encS 1 nb (ints b) .i64 i (.int .i64 b[i]) (by omega) (by rw [Int.toNat_natCast, ints_get, List.getElem?_eq_getElem hd']; rfl) rfl (by decide)
        have hw := wrap_succ hd (by omega)
        rw [List.drop_eq_getElem_cons hd, List.drop_eq_getElem_cons hd', sameI]
        simp +contextual only [go_sem, ↓reduceIte, r109_l0, g0, g1, g5, nat_lt_dec, hd, hx, hy, lenL_encS, ints_len]
        cases hb : a[i] != b[i] with
        | true => simp +contextual only [go_sem, ↓reduceIte]
        | false =>
          simp +contextual only [go_sem, ↓reduceIte, hw]
          refine ih (i + 1) _ _ (by omega) ⟨by omega, ?_, ?_, ?_⟩ <;> simp +contextual only [go_sem, ↓reduceIte, g0, g1, g5, hw]
      · have : i = a.length := by omega
        subst this
        simp +contextual only [go_sem, ↓reduceIte, r109_l0, g0, g1, g5, nat_lt_dec, Nat.lt_irrefl, lenL_encS, ints_len]
        rw [List.drop_length, hl, List.drop_length]; rfl
    · refine ⟨Nat.zero_le _, ?_, ?_, ?_⟩ <;> simp +contextual only [go_sem, ↓reduceIte] <;> rfl
theorem c56 (na nb : Bool) (a b : List Int) (ha : a.length < 2 ^ 62) : calV U 56 [encS na (ints a), encS nb (ints b)] = some (.bool (sameI a b)) := by
  refine pure_go k56 (by kernel_rfl) (by simp [stills, still_encS, still]) ?_
  have := c109 na nb a b ha
  simp (config := { maxSteps := 2000000 }) +contextual only [go_sem, ↓reduceIte, r56, this]
/-- a list and an error are the expected ones -/
def listR (a : List Int) (e bad : Int) (b : List Int) : Bool := bif bad != 0 then ((a.length : Int) == 0) && e == bad else (e == 0) && sameI a b
theorem c36 (na nb : Bool) (a b : List Int) (e bad : Int) (ha : a.length < 2 ^ 62) : calV U 36 [encS na (ints a), .int .i64 e, .int .i64 bad, encS nb (ints b)] = some (.bool (listR a e bad b)) := by
  refine pure_go k36 (by kernel_rfl) (by simp [stills, still_encS, still]) ?_
  have := c56 na nb a b ha
  unfold listR
  cases hb : bad != 0 <;> simp (config := { maxSteps := 2000000 }) +contextual only [go_sem, ↓reduceIte, r36, this, lenL_encS, ints_len, hb]
end Go.Am

set_option linter.all false
namespace Go.Am
open Go
variable [MaxLen]
set_option maxRecDepth 100000
set_option maxHeartbeats 4000000

/-! # The reference's Triggers -/
theorem Ha_at {l : List Int} {S : List Step} {i a : Nat} (h : a < S.length) : Ha l S i a = atR l i S[a].cond := by unfold Ha; rw [List.getElem?_eq_getElem h]
theorem c35 (nl : Bool) (l : List Int) (hl : okSig l) (p : Prog) (h0 : 0 < p.steps.length) (hn : p.steps.length < 2 ^ 30) (hc : ∀ s ∈ p.steps, s.cond.wf) :
    calV U 35 [encP p, encS nl (ints l)] = some (encS true (ints (trigsR l p.steps))) := by
  have hlen := hl.1
  refine pure_go k35 (by kernel_rfl) (by simp [stills, still_encP, still_encS, still]) ?_
  rw [encP_eq]
  simp (config := { maxSteps := 2000000 }) +contextual only [go_sem, ↓reduceIte, r35, lenL_encS, cells_encS, noAgg_encS]
  refine loop_to (σ := Nat) (fun i => l.length - i) (fun i => some (encS true (ints (trigsR l p.steps)))) (fun i e s => i ≤ l.length ∧ Env.get e 1 = encS nl (ints l) ∧ Env.get e 2 = .ptr 8 0 ∧ Env.get e 9 = .int .i64 (i : Nat) ∧ 8 < s.next ∧ Fr s ∧
    s.get 8 = some (.cells [.int .i64 p.lines, encS p.nl (encSteps p.steps)] 31 false 0 0) ∧
    ∃ (a : Nat) (k g : Int) (acc : List Int) (v : AV), Env.get e 6 = .int .i64 (a : Nat) ∧ Env.get e 7 = .int .i64 k ∧ Env.get e 8 = .int .i64 g ∧ Env.get e 5 = v ∧ a < p.steps.length ∧ (0 ≤ k ∧ k ≤ i) ∧ (0 ≤ g ∧ g ≤ i) ∧ acc.length ≤ i ∧ RowI s 9 3 1 acc.length (ints acc) v ∧
      acc ++ trR (Wn p.steps) (Tm p.steps) p.steps.length (Ha l p.steps) (l.length - i) i (a, k, g) = trigsR l p.steps) 0 ?_ rfl ?_
  · rintro L i e s ⟨hi, g1, g2, g9, nx, fr, gs, a, k, g, acc, v, g6, g7, g8, g5, ha, hk, hg, hacc, hv, hrun⟩ IH
    by_cases hd : i < l.length
    · have hw := wrap_succ hd (by omega)
      have hla := hv.lenA
      have hna := hv.noAgg
      have hx := ixa_step (nl := p.nl) ha
      have hx0 : ixRA 9 (encS p.nl (encSteps p.steps)) (.int .i64 0) = some (.fp p.steps[0].cells9 0) := ixa_step (nl := p.nl) h0
      have w1 : IntKind.i64.wrap ((i : Int) - g) = (i : Int) - g := by rw [wrap_i64] <;> omega
      have w2 : IntKind.i64.wrap (k + 1) = k + 1 := by rw [wrap_i64] <;> omega
      have w3 : IntKind.i64.wrap ((a : Int) + 1) = (a : Int) + 1 := by rw [wrap_i64] <;> omega
      have w4 : IntKind.i64.wrap 1 = 1 := by rw [wrap_i64] <;> omega
      have cx := c97 nl l hl i hd p.steps[a].cond (hc _ (List.getElem_mem ha))
      have cy := c97 nl l hl i hd p.steps[0].cond (hc _ (List.getElem_mem h0))
      have ok := rf_ok (W := Wn p.steps) (T := Tm p.steps) (n := p.steps.length) (h := Ha l p.steps i) (t := i) ha hk hg
      rw [show l.length - i = (l.length - (i + 1)) + 1 by omega, trR] at hrun
      unfold rfP rfQ at hrun ok
      rw [Wn_at ha, Tm_at ha, Tm_at h0, Ha_at ha, Ha_at h0] at hrun ok
      rw [encC_cells] at cx cy
      simp only [Cond.cells, Step.cells9] at hx hx0 cx cy
      generalize p.steps[a] = x at *
      generalize p.steps[0] = y at *
      have hb1 : (acc.length + 1) * 8 ≤ 1099511627776 := by omega
      have hb2 : acc.length + 1 ≤ 1099511627776 := by omega
      have e0 : (((0 : Nat) : Int)) = 0 := rfl
      have hv0 : ∀ y, RowI (s.new y) 9 3 1 acc.length (ints acc) v := fun y => hv.mono (by rw [next_new]; omega) fun j _ hj => by rw [get_new, if_neg (by omega)]
      cases h1 : decide (x.within > 0)
      · cases h2 : decide ((i : Int) - g > x.within)
        · cases h3 : atR l i x.cond with
          | false =>
            simp only [h1, h2, e0, Int.zero_add, Bool.and_true, Bool.and_false, Bool.true_and, Bool.false_and, cond_true, cond_false, h3, Bool.not_false] at hrun ok
            simp (config := { maxSteps := 2000000 }) +contextual only [go_sem, ↓reduceIte, r35_l0, g1, g2, g5, g6, g7, g8, g9, gs, nat_lt_dec, hd, lenL_encS, ints_len, encSteps_len, hx, hx0, cx, cy, w1, w2, w3, w4, h1, h2, hw, appK_some, Nat.reducePow, Nat.one_mul, hla, hna, hb1, hb2, h3]
            refine IH (i + 1) _ _ (by omega) ⟨by omega, ?_, ?_, ?_, nx, fr, gs, a, k, g, acc, v, ?_, ?_, ?_, ?_, ok.1, ok.2.1, ok.2.2, by omega, hv, hrun⟩
            all_goals simp +contextual only [go_sem, ↓reduceIte, g1, g2, g5, g6, g7, g8, g9, hw]
            all_goals rfl
          | true =>
            cases h4 : decide (k + 1 < x.times) with
            | true =>
              simp only [h1, h2, e0, Int.zero_add, Bool.and_true, Bool.and_false, Bool.true_and, Bool.false_and, cond_true, cond_false, h3, h4, Bool.not_true] at hrun ok
              simp (config := { maxSteps := 2000000 }) +contextual only [go_sem, ↓reduceIte, r35_l0, g1, g2, g5, g6, g7, g8, g9, gs, nat_lt_dec, hd, lenL_encS, ints_len, encSteps_len, hx, hx0, cx, cy, w1, w2, w3, w4, h1, h2, hw, appK_some, Nat.reducePow, Nat.one_mul, hla, hna, hb1, hb2, h3, h4]
              refine IH (i + 1) _ _ (by omega) ⟨by omega, ?_, ?_, ?_, nx, fr, gs, a, k + 1, g, acc, v, ?_, ?_, ?_, ?_, ok.1, ok.2.1, ok.2.2, by omega, hv, hrun⟩
              all_goals simp +contextual only [go_sem, ↓reduceIte, g1, g2, g5, g6, g7, g8, g9, hw]
              all_goals rfl
            | false =>
              cases h5 : (((a : Int) + 1 : Int) == p.steps.length) with
              | false =>
                simp only [h1, h2, e0, Int.zero_add, Bool.and_true, Bool.and_false, Bool.true_and, Bool.false_and, cond_true, cond_false, h3, h4, h5, Bool.not_true] at hrun ok
                simp (config := { maxSteps := 2000000 }) +contextual only [go_sem, ↓reduceIte, r35_l0, g1, g2, g5, g6, g7, g8, g9, gs, nat_lt_dec, hd, lenL_encS, ints_len, encSteps_len, hx, hx0, cx, cy, w1, w2, w3, w4, h1, h2, hw, appK_some, Nat.reducePow, Nat.one_mul, hla, hna, hb1, hb2, h3, h4, h5]
                refine IH (i + 1) _ _ (by omega) ⟨by omega, ?_, ?_, ?_, nx, fr, gs, a + 1, 0, i, acc, v, ?_, ?_, ?_, ?_, ok.1, ok.2.1, ok.2.2, by omega, hv, hrun⟩
                all_goals simp +contextual only [go_sem, ↓reduceIte, g1, g2, g5, g6, g7, g8, g9, hw]
                all_goals rfl
              | true =>
                simp only [h1, h2, e0, Int.zero_add, Bool.and_true, Bool.and_false, Bool.true_and, Bool.false_and, cond_true, cond_false, h3, h4, h5, Bool.not_true] at hrun ok
                simp (config := { maxSteps := 2000000 }) +contextual only [go_sem, ↓reduceIte, r35_l0, g1, g2, g5, g6, g7, g8, g9, gs, nat_lt_dec, hd, lenL_encS, ints_len, encSteps_len, hx, hx0, cx, cy, w1, w2, w3, w4, h1, h2, hw, appK_some, Nat.reducePow, Nat.one_mul, hla, hna, hb1, hb2, h3, h4, h5]
                obtain ⟨s1, f1, f2, f3, f4, f5⟩ := (hv0 (.cells [.int .i64 (i : Int)] 3 false 0 0)).app2 (by rw [next_new]; omega) (m := 1) (new := [.int .i64 (i : Int)]) (by omega) (by rfl) (by rfl)
                have hL : acc.length + 1 = (acc ++ [(i : Int)]).length := by simp
                have hI : ints acc ++ [.int .i64 (i : Int)] = ints (acc ++ [(i : Int)]) := by rw [ints, ints, List.map_append]; rfl
                rw [f1]
                simp +contextual only [go_sem, ↓reduceIte, g9, hw]
                rw [hI, hL] at f3
                have hrun' := by rw [List.append_cons] at hrun; exact hrun
                refine IH (i + 1) _ _ (by omega) ⟨by omega, ?_, ?_, ?_, by rw [f2, next_new]; omega, f5 (fr.new _), ?_, 0, 0, i, acc ++ [(i : Int)], _, ?_, ?_, ?_, ?_, ok.1, ok.2.1, ok.2.2, by rw [List.length_append]; simp; omega, f3, hrun'⟩
                case refine_4 => rw [f4 8 (by rw [next_new]; omega) ((hv0 (.cells [.int .i64 (i : Int)] 3 false 0 0)).far (.inr (by omega))), get_new, if_neg (by omega), gs]
                all_goals simp +contextual only [go_sem, ↓reduceIte, g1, g2, g6, g7, g8, g9, hw]
                all_goals first | rfl | rw [← hL]
        · cases h3 : atR l i x.cond with
          | false =>
            simp only [h1, h2, e0, Int.zero_add, Bool.and_true, Bool.and_false, Bool.true_and, Bool.false_and, cond_true, cond_false, h3, Bool.not_false] at hrun ok
            simp (config := { maxSteps := 2000000 }) +contextual only [go_sem, ↓reduceIte, r35_l0, g1, g2, g5, g6, g7, g8, g9, gs, nat_lt_dec, hd, lenL_encS, ints_len, encSteps_len, hx, hx0, cx, cy, w1, w2, w3, w4, h1, h2, hw, appK_some, Nat.reducePow, Nat.one_mul, hla, hna, hb1, hb2, h3]
            refine IH (i + 1) _ _ (by omega) ⟨by omega, ?_, ?_, ?_, nx, fr, gs, a, k, g, acc, v, ?_, ?_, ?_, ?_, ok.1, ok.2.1, ok.2.2, by omega, hv, hrun⟩
            all_goals simp +contextual only [go_sem, ↓reduceIte, g1, g2, g5, g6, g7, g8, g9, hw]
            all_goals rfl
          | true =>
            cases h4 : decide (k + 1 < x.times) with
            | true =>
              simp only [h1, h2, e0, Int.zero_add, Bool.and_true, Bool.and_false, Bool.true_and, Bool.false_and, cond_true, cond_false, h3, h4, Bool.not_true] at hrun ok
              simp (config := { maxSteps := 2000000 }) +contextual only [go_sem, ↓reduceIte, r35_l0, g1, g2, g5, g6, g7, g8, g9, gs, nat_lt_dec, hd, lenL_encS, ints_len, encSteps_len, hx, hx0, cx, cy, w1, w2, w3, w4, h1, h2, hw, appK_some, Nat.reducePow, Nat.one_mul, hla, hna, hb1, hb2, h3, h4]
              refine IH (i + 1) _ _ (by omega) ⟨by omega, ?_, ?_, ?_, nx, fr, gs, a, k + 1, g, acc, v, ?_, ?_, ?_, ?_, ok.1, ok.2.1, ok.2.2, by omega, hv, hrun⟩
              all_goals simp +contextual only [go_sem, ↓reduceIte, g1, g2, g5, g6, g7, g8, g9, hw]
              all_goals rfl
            | false =>
              cases h5 : (((a : Int) + 1 : Int) == p.steps.length) with
              | false =>
                simp only [h1, h2, e0, Int.zero_add, Bool.and_true, Bool.and_false, Bool.true_and, Bool.false_and, cond_true, cond_false, h3, h4, h5, Bool.not_true] at hrun ok
                simp (config := { maxSteps := 2000000 }) +contextual only [go_sem, ↓reduceIte, r35_l0, g1, g2, g5, g6, g7, g8, g9, gs, nat_lt_dec, hd, lenL_encS, ints_len, encSteps_len, hx, hx0, cx, cy, w1, w2, w3, w4, h1, h2, hw, appK_some, Nat.reducePow, Nat.one_mul, hla, hna, hb1, hb2, h3, h4, h5]
                refine IH (i + 1) _ _ (by omega) ⟨by omega, ?_, ?_, ?_, nx, fr, gs, a + 1, 0, i, acc, v, ?_, ?_, ?_, ?_, ok.1, ok.2.1, ok.2.2, by omega, hv, hrun⟩
                all_goals simp +contextual only [go_sem, ↓reduceIte, g1, g2, g5, g6, g7, g8, g9, hw]
                all_goals rfl
              | true =>
                simp only [h1, h2, e0, Int.zero_add, Bool.and_true, Bool.and_false, Bool.true_and, Bool.false_and, cond_true, cond_false, h3, h4, h5, Bool.not_true] at hrun ok
                simp (config := { maxSteps := 2000000 }) +contextual only [go_sem, ↓reduceIte, r35_l0, g1, g2, g5, g6, g7, g8, g9, gs, nat_lt_dec, hd, lenL_encS, ints_len, encSteps_len, hx, hx0, cx, cy, w1, w2, w3, w4, h1, h2, hw, appK_some, Nat.reducePow, Nat.one_mul, hla, hna, hb1, hb2, h3, h4, h5]
                obtain ⟨s1, f1, f2, f3, f4, f5⟩ := (hv0 (.cells [.int .i64 (i : Int)] 3 false 0 0)).app2 (by rw [next_new]; omega) (m := 1) (new := [.int .i64 (i : Int)]) (by omega) (by rfl) (by rfl)
                have hL : acc.length + 1 = (acc ++ [(i : Int)]).length := by simp
                have hI : ints acc ++ [.int .i64 (i : Int)] = ints (acc ++ [(i : Int)]) := by rw [ints, ints, List.map_append]; rfl
                rw [f1]
                simp +contextual only [go_sem, ↓reduceIte, g9, hw]
                rw [hI, hL] at f3
                have hrun' := by rw [List.append_cons] at hrun; exact hrun
                refine IH (i + 1) _ _ (by omega) ⟨by omega, ?_, ?_, ?_, by rw [f2, next_new]; omega, f5 (fr.new _), ?_, 0, 0, i, acc ++ [(i : Int)], _, ?_, ?_, ?_, ?_, ok.1, ok.2.1, ok.2.2, by rw [List.length_append]; simp; omega, f3, hrun'⟩
                case refine_4 => rw [f4 8 (by rw [next_new]; omega) ((hv0 (.cells [.int .i64 (i : Int)] 3 false 0 0)).far (.inr (by omega))), get_new, if_neg (by omega), gs]
                all_goals simp +contextual only [go_sem, ↓reduceIte, g1, g2, g6, g7, g8, g9, hw]
                all_goals first | rfl | rw [← hL]
      · cases h2 : decide ((i : Int) - g > x.within)
        · cases h3 : atR l i x.cond with
          | false =>
            simp only [h1, h2, e0, Int.zero_add, Bool.and_true, Bool.and_false, Bool.true_and, Bool.false_and, cond_true, cond_false, h3, Bool.not_false] at hrun ok
            simp (config := { maxSteps := 2000000 }) +contextual only [go_sem, ↓reduceIte, r35_l0, g1, g2, g5, g6, g7, g8, g9, gs, nat_lt_dec, hd, lenL_encS, ints_len, encSteps_len, hx, hx0, cx, cy, w1, w2, w3, w4, h1, h2, hw, appK_some, Nat.reducePow, Nat.one_mul, hla, hna, hb1, hb2, h3]
            refine IH (i + 1) _ _ (by omega) ⟨by omega, ?_, ?_, ?_, nx, fr, gs, a, k, g, acc, v, ?_, ?_, ?_, ?_, ok.1, ok.2.1, ok.2.2, by omega, hv, hrun⟩
            all_goals simp +contextual only [go_sem, ↓reduceIte, g1, g2, g5, g6, g7, g8, g9, hw]
            all_goals rfl
          | true =>
            cases h4 : decide (k + 1 < x.times) with
            | true =>
              simp only [h1, h2, e0, Int.zero_add, Bool.and_true, Bool.and_false, Bool.true_and, Bool.false_and, cond_true, cond_false, h3, h4, Bool.not_true] at hrun ok
              simp (config := { maxSteps := 2000000 }) +contextual only [go_sem, ↓reduceIte, r35_l0, g1, g2, g5, g6, g7, g8, g9, gs, nat_lt_dec, hd, lenL_encS, ints_len, encSteps_len, hx, hx0, cx, cy, w1, w2, w3, w4, h1, h2, hw, appK_some, Nat.reducePow, Nat.one_mul, hla, hna, hb1, hb2, h3, h4]
              refine IH (i + 1) _ _ (by omega) ⟨by omega, ?_, ?_, ?_, nx, fr, gs, a, k + 1, g, acc, v, ?_, ?_, ?_, ?_, ok.1, ok.2.1, ok.2.2, by omega, hv, hrun⟩
              all_goals simp +contextual only [go_sem, ↓reduceIte, g1, g2, g5, g6, g7, g8, g9, hw]
              all_goals rfl
            | false =>
              cases h5 : (((a : Int) + 1 : Int) == p.steps.length) with
              | false =>
                simp only [h1, h2, e0, Int.zero_add, Bool.and_true, Bool.and_false, Bool.true_and, Bool.false_and, cond_true, cond_false, h3, h4, h5, Bool.not_true] at hrun ok
                simp (config := { maxSteps := 2000000 }) +contextual only [go_sem, ↓reduceIte, r35_l0, g1, g2, g5, g6, g7, g8, g9, gs, nat_lt_dec, hd, lenL_encS, ints_len, encSteps_len, hx, hx0, cx, cy, w1, w2, w3, w4, h1, h2, hw, appK_some, Nat.reducePow, Nat.one_mul, hla, hna, hb1, hb2, h3, h4, h5]
                refine IH (i + 1) _ _ (by omega) ⟨by omega, ?_, ?_, ?_, nx, fr, gs, a + 1, 0, i, acc, v, ?_, ?_, ?_, ?_, ok.1, ok.2.1, ok.2.2, by omega, hv, hrun⟩
                all_goals simp +contextual only [go_sem, ↓reduceIte, g1, g2, g5, g6, g7, g8, g9, hw]
                all_goals rfl
              | true =>
                simp only [h1, h2, e0, Int.zero_add, Bool.and_true, Bool.and_false, Bool.true_and, Bool.false_and, cond_true, cond_false, h3, h4, h5, Bool.not_true] at hrun ok
                simp (config := { maxSteps := 2000000 }) +contextual only [go_sem, ↓reduceIte, r35_l0, g1, g2, g5, g6, g7, g8, g9, gs, nat_lt_dec, hd, lenL_encS, ints_len, encSteps_len, hx, hx0, cx, cy, w1, w2, w3, w4, h1, h2, hw, appK_some, Nat.reducePow, Nat.one_mul, hla, hna, hb1, hb2, h3, h4, h5]
                obtain ⟨s1, f1, f2, f3, f4, f5⟩ := (hv0 (.cells [.int .i64 (i : Int)] 3 false 0 0)).app2 (by rw [next_new]; omega) (m := 1) (new := [.int .i64 (i : Int)]) (by omega) (by rfl) (by rfl)
                have hL : acc.length + 1 = (acc ++ [(i : Int)]).length := by simp
                have hI : ints acc ++ [.int .i64 (i : Int)] = ints (acc ++ [(i : Int)]) := by rw [ints, ints, List.map_append]; rfl
                rw [f1]
                simp +contextual only [go_sem, ↓reduceIte, g9, hw]
                rw [hI, hL] at f3
                have hrun' := by rw [List.append_cons] at hrun; exact hrun
                refine IH (i + 1) _ _ (by omega) ⟨by omega, ?_, ?_, ?_, by rw [f2, next_new]; omega, f5 (fr.new _), ?_, 0, 0, i, acc ++ [(i : Int)], _, ?_, ?_, ?_, ?_, ok.1, ok.2.1, ok.2.2, by rw [List.length_append]; simp; omega, f3, hrun'⟩
                case refine_4 => rw [f4 8 (by rw [next_new]; omega) ((hv0 (.cells [.int .i64 (i : Int)] 3 false 0 0)).far (.inr (by omega))), get_new, if_neg (by omega), gs]
                all_goals simp +contextual only [go_sem, ↓reduceIte, g1, g2, g6, g7, g8, g9, hw]
                all_goals first | rfl | rw [← hL]
        · cases h3 : atR l i y.cond with
          | false =>
            simp only [h1, h2, e0, Int.zero_add, Bool.and_true, Bool.and_false, Bool.true_and, Bool.false_and, cond_true, cond_false, h3, Bool.not_false] at hrun ok
            simp (config := { maxSteps := 2000000 }) +contextual only [go_sem, ↓reduceIte, r35_l0, g1, g2, g5, g6, g7, g8, g9, gs, nat_lt_dec, hd, lenL_encS, ints_len, encSteps_len, hx, hx0, cx, cy, w1, w2, w3, w4, h1, h2, hw, appK_some, Nat.reducePow, Nat.one_mul, hla, hna, hb1, hb2, h3]
            refine IH (i + 1) _ _ (by omega) ⟨by omega, ?_, ?_, ?_, nx, fr, gs, 0, 0, g, acc, v, ?_, ?_, ?_, ?_, ok.1, ok.2.1, ok.2.2, by omega, hv, hrun⟩
            all_goals simp +contextual only [go_sem, ↓reduceIte, g1, g2, g5, g6, g7, g8, g9, hw]
            all_goals rfl
          | true =>
            cases h4 : decide (1 < y.times) with
            | true =>
              simp only [h1, h2, e0, Int.zero_add, Bool.and_true, Bool.and_false, Bool.true_and, Bool.false_and, cond_true, cond_false, h3, h4, Bool.not_true] at hrun ok
              simp (config := { maxSteps := 2000000 }) +contextual only [go_sem, ↓reduceIte, r35_l0, g1, g2, g5, g6, g7, g8, g9, gs, nat_lt_dec, hd, lenL_encS, ints_len, encSteps_len, hx, hx0, cx, cy, w1, w2, w3, w4, h1, h2, hw, appK_some, Nat.reducePow, Nat.one_mul, hla, hna, hb1, hb2, h3, h4]
              refine IH (i + 1) _ _ (by omega) ⟨by omega, ?_, ?_, ?_, nx, fr, gs, 0, 1, g, acc, v, ?_, ?_, ?_, ?_, ok.1, ok.2.1, ok.2.2, by omega, hv, hrun⟩
              all_goals simp +contextual only [go_sem, ↓reduceIte, g1, g2, g5, g6, g7, g8, g9, hw]
              all_goals rfl
            | false =>
              cases h5 : ((1 : Int) == p.steps.length) with
              | false =>
                simp only [h1, h2, e0, Int.zero_add, Bool.and_true, Bool.and_false, Bool.true_and, Bool.false_and, cond_true, cond_false, h3, h4, h5, Bool.not_true] at hrun ok
                simp (config := { maxSteps := 2000000 }) +contextual only [go_sem, ↓reduceIte, r35_l0, g1, g2, g5, g6, g7, g8, g9, gs, nat_lt_dec, hd, lenL_encS, ints_len, encSteps_len, hx, hx0, cx, cy, w1, w2, w3, w4, h1, h2, hw, appK_some, Nat.reducePow, Nat.one_mul, hla, hna, hb1, hb2, h3, h4, h5]
                refine IH (i + 1) _ _ (by omega) ⟨by omega, ?_, ?_, ?_, nx, fr, gs, 0 + 1, 0, i, acc, v, ?_, ?_, ?_, ?_, ok.1, ok.2.1, ok.2.2, by omega, hv, hrun⟩
                all_goals simp +contextual only [go_sem, ↓reduceIte, g1, g2, g5, g6, g7, g8, g9, hw]
                all_goals rfl
              | true =>
                simp only [h1, h2, e0, Int.zero_add, Bool.and_true, Bool.and_false, Bool.true_and, Bool.false_and, cond_true, cond_false, h3, h4, h5, Bool.not_true] at hrun ok
                simp (config := { maxSteps := 2000000 }) +contextual only [go_sem, ↓reduceIte, r35_l0, g1, g2, g5, g6, g7, g8, g9, gs, nat_lt_dec, hd, lenL_encS, ints_len, encSteps_len, hx, hx0, cx, cy, w1, w2, w3, w4, h1, h2, hw, appK_some, Nat.reducePow, Nat.one_mul, hla, hna, hb1, hb2, h3, h4, h5]
                obtain ⟨s1, f1, f2, f3, f4, f5⟩ := (hv0 (.cells [.int .i64 (i : Int)] 3 false 0 0)).app2 (by rw [next_new]; omega) (m := 1) (new := [.int .i64 (i : Int)]) (by omega) (by rfl) (by rfl)
                have hL : acc.length + 1 = (acc ++ [(i : Int)]).length := by simp
                have hI : ints acc ++ [.int .i64 (i : Int)] = ints (acc ++ [(i : Int)]) := by rw [ints, ints, List.map_append]; rfl
                rw [f1]
                simp +contextual only [go_sem, ↓reduceIte, g9, hw]
                rw [hI, hL] at f3
                have hrun' := by rw [List.append_cons] at hrun; exact hrun
                refine IH (i + 1) _ _ (by omega) ⟨by omega, ?_, ?_, ?_, by rw [f2, next_new]; omega, f5 (fr.new _), ?_, 0, 0, i, acc ++ [(i : Int)], _, ?_, ?_, ?_, ?_, ok.1, ok.2.1, ok.2.2, by rw [List.length_append]; simp; omega, f3, hrun'⟩
                case refine_4 => rw [f4 8 (by rw [next_new]; omega) ((hv0 (.cells [.int .i64 (i : Int)] 3 false 0 0)).far (.inr (by omega))), get_new, if_neg (by omega), gs]
                all_goals simp +contextual only [go_sem, ↓reduceIte, g1, g2, g6, g7, g8, g9, hw]
                all_goals first | rfl | rw [← hL]
    · have : i = l.length := by omega
      subst this
      rw [Nat.sub_self, trR, List.append_nil] at hrun
      subst hrun
      have hna := hv.noAgg
      have hfz := hv.frz_ints 38
      simp +contextual only [go_sem, ↓reduceIte, r35_l0, g1, g5, g9, nat_lt_dec, Nat.lt_irrefl, lenL_encS, ints_len, hna, hfz]
  · refine ⟨Nat.zero_le _, ?_, ?_, ?_, ?_, ?_, ?_, 0, 0, 0, [], .nils, ?_, ?_, ?_, ?_, h0, by omega, by omega, Nat.zero_le _, RowI.nil _ _ _ _, rfl⟩
    case refine_5 =>
      repeat first | exact Fr.own | apply Fr.new | apply Fr.put | apply Fr.upto
      all_goals simp +contextual only [go_sem, ↓reduceIte]
    all_goals try simp +contextual only [go_sem, ↓reduceIte]
    all_goals rfl
end Go.Am

set_option linter.all false
namespace Go.Am
open Go
variable [MaxLen]
set_option maxRecDepth 100000
set_option maxHeartbeats 8000000

theorem outside_within (n a b : Int) : br (outside n a b) 3 0 = within n a b := rfl
theorem within_ne (n a b : Int) : (within n a b != 0) = outside n a b := by
  rw [within, ← outside]; cases outside n a b <;> rfl
theorem within_br (n a b : Int) : within n a b = br (outside n a b) 3 0 := rfl
theorem cpL_eq (lines : Int) (hl : 1 ≤ lines) (hl' : lines ≤ 16) : ∀ (l : List Step) (i : Nat), cpPL lines i l = cpRL lines i l
  | [], _ => rfl
  | s :: l, i => by
    rw [cpPL, cpRL, ck_eq lines hl hl', cpL_eq lines hl hl' l (i + 1)]
    simp only [within_br]
    generalize ckR lines s.cond 1 = c
    generalize outside s.times 1 64 = a
    generalize outside s.within 0 255 = b
    generalize ((i : Int) == 0 && s.within != 0) = d
    cases hc : c != 0
    · have : c = 0 := by simpa using hc
      subst this
      cases a <;> cases b <;> cases d <;> rfl
    · simp only [firstOf, hc, br_true]
theorem cp_eq (p : Prog) : cpP p = cpR p := by
  rw [cpP, cpR, checkLines, within_br]
  cases h : outside p.lines 1 16
  · have hl : 1 ≤ p.lines ∧ p.lines ≤ 16 := by
      simp only [outside, Bool.or_eq_false_iff, decide_eq_false_iff_not] at h; omega
    rw [cpL_eq p.lines hl.1 hl.2]
    cases h1 : ((p.steps.length : Int) == 0) <;> cases h2 : decide ((p.steps.length : Int) > 8) <;> rfl
  · rfl

/-- a program that is in order -/
structure Prog.ok (p : Prog) : Prop where
  lines : 1 ≤ p.lines ∧ p.lines ≤ 16
  ne : p.steps ≠ []
  few : p.steps.length ≤ 8
  cond : ∀ s ∈ p.steps, ckR p.lines s.cond 1 = 0
  tm : ∀ s ∈ p.steps, 1 ≤ s.times ∧ s.times ≤ 64
  wi : ∀ s ∈ p.steps, 0 ≤ s.within ∧ s.within ≤ 255
  first : ∀ s, p.steps[0]? = some s → s.within = 0
theorem outside_false {n a b : Int} (h : outside n a b = false) : a ≤ n ∧ n ≤ b := by
  simp only [outside, Bool.or_eq_false_iff, decide_eq_false_iff_not] at h; omega
theorem br_zero {p : Bool} {e x : Int} (he : e ≠ 0) (h : br p e x = 0) : p = false ∧ x = 0 := by
  cases p
  · exact ⟨rfl, h⟩
  · exact absurd h he
theorem br_err {e x : Int} (h : br (e != 0) e x = 0) : e = 0 ∧ x = 0 := by
  cases he : e != 0
  · rw [he, br_false] at h; exact ⟨by simpa using he, h⟩
  · rw [he, br_true] at h; rw [h] at he; cases he
theorem cpRL_zero {lines : Int} : ∀ {l : List Step} {i : Nat}, cpRL lines i l = 0 → ∀ s ∈ l, ckR lines s.cond 1 = 0 ∧ (1 ≤ s.times ∧ s.times ≤ 64) ∧ (0 ≤ s.within ∧ s.within ≤ 255)
  | x :: l, i, h, s, hs => by
    rw [cpRL] at h
    obtain ⟨h1, h⟩ := br_err h
    obtain ⟨h2, h⟩ := br_zero (by omega) h
    rcases List.mem_cons.1 hs with rfl | hs
    · simp only [Bool.or_eq_false_iff] at h2
      exact ⟨h1, outside_false h2.1.1, outside_false h2.1.2⟩
    · exact cpRL_zero h s hs
theorem ok_of {p : Prog} (h : cpR p = 0) : p.ok := by
  rw [cpR] at h
  obtain ⟨h1, h⟩ := br_err h
  obtain ⟨h2, h⟩ := br_zero (by omega) h
  obtain ⟨h3, h⟩ := br_zero (by omega) h
  have h4 := cpRL_zero h
  refine ⟨?_, ?_, ?_, fun s hs => (h4 s hs).1, fun s hs => (h4 s hs).2.1, fun s hs => (h4 s hs).2.2, ?_⟩
  · rw [checkLines] at h1; exact outside_false (br_zero (x := 0) (by omega : (3 : Int) ≠ 0) h1).1
  · intro e; rw [e] at h2; cases h2
  · simp only [decide_eq_false_iff_not] at h3; omega
  · intro s hs
    cases hp : p.steps with
    | nil => rw [hp] at hs; cases hs
    | cons x l =>
      rw [hp] at hs h
      cases hs
      rw [cpRL] at h
      obtain ⟨_, h⟩ := br_err h
      obtain ⟨h2, _⟩ := br_zero (by omega) h
      simp only [Bool.or_eq_false_iff] at h2
      simpa using h2.2
theorem Prog.ok.known {p : Prog} (h : p.ok) : ∀ s ∈ p.steps, s.cond.allKnown = true := fun s hs => (ckR_known _ _ _ (h.cond s hs)).1

theorem c65_ok (p : Prog) (hf : p.fits) (h : cpR p = 0) : calV U 65 [encP p] = some (.tup [.int .i64 (sizeP p), .int .i64 0]) := by
  have h64 := c64 p hf
  rw [cp_eq, h] at h64
  have hok := ok_of h
  have h102 := c102 p hf ⟨by have := hok.lines; omega, hok.lines.2⟩ hok.known
  refine pure_go k65 (by kernel_rfl) (by simp [stills, still_encP]) ?_
  rw [encP_eq] at h64 h102 ⊢
  simp (config := { maxSteps := 2000000 }) +contextual only [go_sem, ↓reduceIte, r65, h64, h102, noAgg_encS]
theorem c65_bad (p : Prog) (hf : p.fits) (h : cpR p ≠ 0) : calV U 65 [encP p] = some (.tup [.int .i64 0, .int .i64 (cpR p)]) := by
  have h64 := c64 p hf
  rw [cp_eq] at h64
  have hb : (cpR p != 0) = true := by simpa using h
  refine pure_go k65 (by kernel_rfl) (by simp [stills, still_encP]) ?_
  rw [encP_eq] at h64 ⊢
  simp (config := { maxSteps := 2000000 }) +contextual only [go_sem, ↓reduceIte, r65, h64, hb, noAgg_encS]

mutual
def szR : Cond → Int
  | .mk k a b mi ma p nl kids => bif (kdOf k == .pulse || kdOf k == .gap) || (kdOf k == .idle || kdOf k == .setup) || kdOf k == .runt then leafSize (kdOf k) (.mk k a b mi ma p nl kids) else szRL kids 1
def szRL : List Cond → Int → Int
  | [], x => x
  | c :: l, x => szRL l (lim x (szR c))
end
theorem c101 : ∀ c : Cond, c.fits → calV U 101 [encC c] = some (.int .i64 (szR c)) := by
  intro c
  induction c using Cond.ind with
  | h kind a b mi ma pat nl kids ih =>
  intro hf
  rw [Cond.fits] at hf
  obtain ⟨f1, f2, f3⟩ := hf
  refine pure_go k101 (by kernel_rfl) (by simp [stills, still_encC]) ?_
  have hloop : ∀ e s, Env.get e 3 = .int .i64 1 → Env.get e 4 = .int .i64 0 → Env.get e 1 = .ptr 8 0 → s.get 8 = some (.cells [.str kind, .int .i64 a, .int .i64 b, .int .i64 mi, .int .i64 ma, .str pat, encS nl (encL kids)] 39 false 0 0) → ∀ ks, (∀ e' s' x, Env.get e' 3 = .int .i64 x → goX U (finP U [.tmp 2]) ks 1 e' s' = some (.int .i64 x)) →
      goL U (finP U [.tmp 2]) ks r101_l0 e s = some (.int .i64 (szRL kids 1)) := by
    intro e s h3 h4 h1 hs ks hk
    refine loop_to (σ := Nat × Int) (fun x => kids.length - x.1) (fun x => some (AV.int .i64 (szRL (kids.drop x.1) x.2))) (fun x e s => x.1 ≤ kids.length ∧ Env.get e 3 = .int .i64 x.2 ∧ Env.get e 4 = .int .i64 x.1 ∧ Env.get e 1 = .ptr 8 0 ∧ s.get 8 = some (.cells [.str kind, .int .i64 a, .int .i64 b, .int .i64 mi, .int .i64 ma, .str pat, encS nl (encL kids)] 39 false 0 0)) (0, 1) ?_ rfl ⟨Nat.zero_le _, h3, h4, h1, hs⟩
    clear h3 h4 h1 hs e s
    rintro L ⟨i, acc⟩ e s ⟨hi, h3, h4, h1, hs⟩ IH
    simp only at hi h3 h4 h1 hs IH ⊢
    by_cases hd : i < kids.length
    · have hx : (encL kids)[i]? = some (encC kids[i]) := by rw [encL_get, List.getElem?_eq_getElem hd]; rfl
      have hw := wrap_succ hd (by omega)
      have hc := ih kids[i] (List.getElem_mem hd) (f3 _ (List.getElem_mem hd))
      rw [encC_cells] at hx hc
      simp only [Cond.cells] at hx hc
      rw [encS_ne (encL_ne hd)] at hs
      simp +contextual only [go_sem, ↓reduceIte, r101_l0, h3, h4, h1, hs, nat_lt_dec, hd, encL_len, hx, hc, c100, noAgg_encS, hw]
      rw [List.drop_eq_getElem_cons hd, szRL]
      refine IH (i + 1, lim acc (szR kids[i])) _ _ (by simp only; omega) ⟨by simp only; omega, ?_, ?_, ?_, ?_⟩ <;> simp +contextual only [go_sem, ↓reduceIte, h3, h4, h1, hs, hw, encS_ne (encL_ne hd)]
    · have : i = kids.length := by omega
      subst this
      simp +contextual only [go_sem, ↓reduceIte, r101_l0, h3, h4, h1, hs, lenL_encS, encL_len, nat_lt_dec, Nat.lt_irrefl]
      rw [List.drop_length, szRL]
      exact hk _ _ _ (by simp +contextual only [go_sem, ↓reduceIte, h3])
  rw [encC, szR]
  obtain ⟨h0, h1, h2, h3, h4, h5, h6, h7, h8, h9, h10, h11, h12, h13, h14⟩ := kd_facts kind
  generalize kdOf kind = d at *
  cases d
  all_goals simp only [reduceCtorEq, decide_true, decide_false] at h1 h2 h3 h4 h5 h6 h7 h8 h9 h10 h11 h12 h13 h14
  all_goals simp (config := { maxSteps := 2000000 }) +contextual only [go_sem, ↓reduceIte, r101, lenL_encS, encL_len, cells_encS, noAgg_encS, h7, h8, h9, h10, h11]
  all_goals first
    | rfl
    | (refine hloop _ _ ?_ ?_ ?_ ?_ _ ?_
       rotate_right 1
       · intro e' s' x h
         simp +contextual only [go_sem, ↓reduceIte, h]
       all_goals simp +contextual only [go_sem, ↓reduceIte])
end Go.Am

set_option linter.all false
namespace Go.Am
open Go
variable [MaxLen]
set_option maxRecDepth 100000
set_option maxHeartbeats 4000000

/-! # The program's Triggers -/
theorem Prog.ok.wf {p : Prog} (h : p.ok) : ∀ s ∈ p.steps, s.cond.wf := fun s hs => wf_of_ck h.lines.1 h.lines.2 s.cond 1 (h.cond s hs)
theorem CRow_fz (s : St) (l : List Cond) : CRow s (.fz (l.map encC)) l := by
  refine ⟨by rw [← encS_fz, lenL_encS, List.length_map], fun i h => ⟨.fp l[i].cells 0, ?_, fun s' _ => ?_⟩, rfl, rfl⟩
  · have := ixa_encS 7 false (l.map encC) .i64 i (encC l[i]) (by omega) (by rw [Int.toNat_natCast, List.getElem?_map, List.getElem?_eq_getElem h]; rfl) (by rw [encC_cells]; rfl) (by decide)
    rw [encS_fz, encC_cells] at this
    exact this
  · rw [encC_cells]
    simp only [Cond.cells]
    simp +contextual only [go_sem, ↓reduceIte]
theorem lvsL_ne {l : List Cond} (h : ∀ c ∈ l, c.wf) (hne : l ≠ []) : lvsL l ≠ [] := by
  cases l with
  | nil => exact absurd rfl hne
  | cons c l =>
    rw [lvsL]
    intro e
    exact lvs_ne c (h c (List.mem_cons_self ..)) (List.append_eq_nil_iff.1 e).1
theorem RowI.notStill {s : St} {B : Nat} {t : TypeId} {n i : Nat} {cs : List AV} {v : AV} (h : RowI s B t n i cs v) (hi : i ≠ 0) : still v = false := by
  rcases h with ⟨h0, _, _⟩ | ⟨_, _, b, _, _, rfl, _⟩
  · exact absurd h0 hi
  · rfl
/-- what the program tells of its triggers -/
def trgP (p : Prog) (l : List Int) : AV :=
  bif cpP p != 0 then .tup [.nils, .int .i64 (cpP p)] else bif ckSig p.lines l != 0 then .tup [.nils, .int .i64 (ckSig p.lines l)] else .tup [encS true (ints (trigsM l p.steps)), .int .i64 0]
theorem c32 (p : Prog) (hf : p.fits) (hL : (lvsL (p.steps.map Step.cond)).length ≤ 2 ^ 20) (nl : Bool) (l : List Int) : calV U 32 [encP p, encS nl (ints l)] = some (trgP p l) := by
  refine pure_go k32 (by kernel_rfl) (by simp [stills, still_encP, still_encS, still]) ?_
  unfold trgP
  have h64 := c64 p hf
  cases hw : cpP p != 0 with
  | true =>
    rw [encP_eq] at h64 ⊢
    simp (config := { maxSteps := 2000000 }) +contextual only [go_sem, ↓reduceIte, r32, h64, hw, noAgg_encS, cells_encS]
  | false =>
    have hw0 : cpP p = 0 := by simpa using hw
    have ok := ok_of ((cp_eq p).symm.trans hw0)
    have hl2 := ok.lines
    have h91 := c91 nl l p.lines hl2.1 hl2.2
    have h98 := c98 p hf.1
    rw [hw0] at h64
    cases hg : ckSig p.lines l != 0 with
    | true =>
      rw [encP_eq] at h64 ⊢
      simp (config := { maxSteps := 2000000 }) +contextual only [go_sem, ↓reduceIte, r32, h64, h91, hg, noAgg_encS, cells_encS]
    | false =>
      have hg0 : ckSig p.lines l = 0 := by simpa using hg
      have hsig := okSig_of hl2.2 hg0
      have hwf := ok.wf
      have hne : 0 < p.steps.length := List.length_pos_iff.2 ok.ne
      have hCw : ∀ c ∈ p.steps.map Step.cond, c.wf := fun c hc => by
        obtain ⟨s, hs, rfl⟩ := List.mem_map.1 hc
        exact hwf s hs
      have hCne : p.steps.map Step.cond ≠ [] := by simpa using ok.ne
      have hlne := lvsL_ne hCw hCne
      rw [encS_nonempty hCne] at h98
      rw [hg0] at h91
      rw [encP_eq] at h64 h98 ⊢
      simp (config := { maxSteps := 2000000 }) +contextual only [go_sem, ↓reduceIte, r32, h64, h91, h98, noAgg_encS, cells_encS, k92']
      generalize hX : Blk.cells [.int .i64 p.lines, encS p.nl (encSteps p.steps)] 25 false 0 0 = X
      have hg8 : ((ownSt U).new X).get 8 = some X := by simp +contextual only [go_sem, ↓reduceIte]
      have hnx0 : ((ownSt U).new X).next = 9 := by simp +contextual only [go_sem, ↓reduceIte]
      obtain ⟨s', lv, sv, st, e1, e2, e3, e4, R1, R2, R3⟩ := c92 ((ownSt U).new X) (.fz ((p.steps.map Step.cond).map encC)) (p.steps.map Step.cond) hCw (by rw [List.length_map]; have := ok.few; omega) hL (CRow_fz _ _) (Fr.own.new _)
      rw [hnx0] at e3 e4 R1 R2 R3
      rw [e1]
      have na1 := R1.noAgg
      have na2 := R2.noAgg
      have hc8 := (e4 8 (by omega)).trans hg8
      simp (config := { maxSteps := 2000000 }) +contextual only [go_sem, ↓reduceIte, na1, na2, lenL_encS, ints_len]
      have hsm : ∀ (z1 z2 z3 : Blk) j, j < s'.next → (((s'.new z1).put s'.next z2).new z3).get j = s'.get j := fun z1 z2 z3 j hj => by rw [get_new, next_put, next_new, if_neg (by omega), get_put, if_neg (by omega), get_new, if_neg (by omega)]
      have hlz : (lvsL (p.steps.map Step.cond)).length ≠ 0 := fun e => hlne (List.length_eq_zero_iff.1 e)
      refine l32 nl l hsig p hne ok.few hwf hL _ s'.next (by omega) ?hmn (.fz ((p.steps.map Step.cond).map encC)) lv sv ?hm ?gp ?gm ?ga ?frm (R1.notStill hlz) ?hk (stv := st) ?hst0 ?_ ?_ ?_ ?_ ?_ ?_ ?_ ?_ ?_
      case hmn => rw [next_new, next_put, next_new]
      case gp => rw [hsm _ _ _ _ (by omega), hc8, ← hX]
      case gm => rw [get_new, next_put, next_new, if_neg (by omega), get_put, if_pos rfl]
      case ga => rw [get_new, next_put, next_new, if_pos rfl]
      case frm => exact ((e2.new _).put (by rw [next_new]; omega) _).new _
      case hm =>
        intro s2 hs2 hn2
        have K : ∀ {t : TypeId} {n k : Nat} {cs : List AV} {w : AV}, RowI s' 11 t n k cs w → RowI s2 11 t n k cs w := fun h => h.mono (by omega) fun j _ hj => by rw [hs2 j (by omega), hsm _ _ _ _ hj]
        have f2 := (K R1).frz_agg U ag_48 sz_48 (by omega) encC_agg (d := 38) (fun a => frz_encC _ _ _)
        have f3 := (K R2)
        have f3 : RowI s2 11 234 1 ((lvsL (p.steps.map Step.cond)).map stepV).length ((lvsL (p.steps.map Step.cond)).map stepV) sv := by rw [List.length_map]; exact f3
        have f3 := f3.frz_one U ag_234 sz_234 (by rw [List.all_eq_true]; intro x hx; obtain ⟨y, _, rfl⟩ := List.mem_map.1 hx; exact stepV_plain y) (d := 38) (frz_steps s2 35 _)
        rw [frz_agg, mapO_cons, frz_fz, mapO_cons, f2, mapO_cons, f3, mapO_nil, encS_nonempty hlne, encS_nonempty hlne]
        rfl
      case hk =>
        intro e s v h10 hv
        have hfz := hv.frz_ints 37
        simp (config := { maxSteps := 2000000 }) +contextual only [go_sem, ↓reduceIte, h10, hfz]
      case hst0 =>
        intro s2 hs2 hn2
        have K : RowI s2 11 3 1 ((lvsL (p.steps.map Step.cond)).map startI).length (ints ((lvsL (p.steps.map Step.cond)).map startI)) st := by
          rw [List.length_map]
          exact R3.mono (by omega) fun j _ hj => by rw [hs2 j (by omega), hsm _ _ _ _ hj]
        have f := K.frz_ints 38
        rw [f, ints, encS_nonempty (by simpa using hlne)]
      all_goals simp +contextual only [go_sem, ↓reduceIte, lenL_encS, ints_len]
      all_goals rfl
end Go.Am

set_option linter.all false
namespace Go.Am
open Go
variable [MaxLen]
set_option maxRecDepth 100000
set_option maxHeartbeats 4000000

/-! # TriggerTimes -/
theorem cpRL_normI (lines : Int) : ∀ (l : List Step) (i : Nat), cpRL lines i (l.map Step.norm) = cpRL lines i l
  | [], _ => rfl
  | s :: l, i => by
    rw [List.map_cons, cpRL, cpRL, cpRL_normI lines l (i + 1)]
    simp only [Step.norm, ckR_normH]
theorem cpR_normI (p : Prog) : cpR p.norm = cpR p := by
  rw [cpR, cpR, Prog.norm]
  simp only [List.length_map, cpRL_normI]
theorem fits_normI {p : Prog} (h : p.fits) : p.norm.fits := by
  refine ⟨by rw [Prog.norm]; simp only [List.length_map]; exact h.1, fun s hs => ?_⟩
  rw [Prog.norm] at hs
  obtain ⟨y, hy, rfl⟩ := List.mem_map.1 hs
  exact fits_normH _ (h.2 y hy)
theorem lvsL_sum {n : Nat} : ∀ (l : List Cond), (∀ c ∈ l, (lvs c).length ≤ n) → (lvsL l).length ≤ l.length * n
  | [], _ => by simp [lvsL]
  | c :: l, h => by
    have h1 := h c (List.mem_cons_self ..)
    have h2 := lvsL_sum l fun x hx => h x (List.mem_cons_of_mem _ hx)
    rw [lvsL, List.length_append, List.length_cons, Nat.succ_mul]
    omega
theorem trR_len (W T : Nat → Int) (n : Nat) (H : Nat → Nat → Bool) : ∀ (r t : Nat) (c : Cur), (trR W T n H r t c).length ≤ r
  | 0, _, _ => Nat.le_refl _
  | r + 1, t, (a, k, g) => by
    rw [trR]
    have := trR_len W T n H r (t + 1) (rfP W T n (H t) t a k g).1
    cases (rfP W T n (H t) t a k g).2 with
    | true => simp only [cond_true, List.length_cons]; omega
    | false => simp only [cond_false]; omega
theorem times_law (l : List Int) (p : Prog) (h : p.ok) : trigsM l p.norm.steps = trigsR l p.steps := by
  have hw : ∀ s ∈ p.norm.steps, s.cond.wf := fun s hs => by
    rw [Prog.norm] at hs
    obtain ⟨y, hy, rfl⟩ := List.mem_map.1 hs
    exact wf_norm _ (h.wf y hy)
  rw [trigsM_eq l _ hw]
  rw [show p.norm.steps = p.steps.map Step.norm from rfl, trigsP_norm]
  refine trigs_eq l p.steps ?_ (List.length_pos_iff.2 h.ne)
  unfold Wn
  cases hs : p.steps[0]? with
  | none => simp
  | some s =>
    have := h.first s hs
    simp only [this]
    omega
theorem c5 (aw : calV U 16 [] = some (.bool true)) (p : Prog) (nl : Bool) (l : List Int) : calV U 5 [encP p, encS nl (ints l)] = some (.bool true) := by
  refine pure_go k5 (by kernel_rfl) (by simp [stills, still_encP, still_encS, still]) ?_
  have q31 := c31 p 12
  have q22 := c22 nl l 60
  cases hs : short p 12 with
  | false =>
    rw [hs] at q31
    rw [encP_eq] at q31 ⊢
    simp (config := { maxSteps := 2000000 }) +contextual only [go_sem, ↓reduceIte, r5, aw, q31, noAgg_encS, cells_encS]
  | true =>
    rw [hs] at q31
    cases hss : shortSig l 60 with
    | false =>
      rw [hss] at q22
      rw [encP_eq] at q31 ⊢
      simp (config := { maxSteps := 2000000 }) +contextual only [go_sem, ↓reduceIte, r5, aw, q31, q22, noAgg_encS, cells_encS]
    | true =>
      rw [hss] at q22
      have hf := short_fits hs
      have hfn := fits_normI hf
      obtain ⟨hs1, hs2⟩ := short_spec hs
      have hL : (lvsL (p.norm.steps.map Step.cond)).length ≤ 2 ^ 20 := by
        have := lvsL_sum (n := 12) (p.norm.steps.map Step.cond) fun c hc => by
          obtain ⟨s, hs', rfl⟩ := List.mem_map.1 hc
          rw [Prog.norm] at hs'
          obtain ⟨y, hy, rfl⟩ := List.mem_map.1 hs'
          have h1 := lvs_leaves y.cond.norm
          rw [leaves_normH] at h1
          have h2 := (hs2 y hy).2
          show (lvs y.cond.norm).length ≤ 12
          omega
        rw [List.length_map, show p.norm.steps.length = p.steps.length by rw [Prog.norm]; simp] at this
        omega
      have q33 := c33 p hf
      have q34 := c34 p hf
      have q32 := c32 p.norm hfn hL nl l
      have hcp : cpP p.norm = cpR p := by rw [cp_eq, cpR_normI]
      have hpl : p.norm.lines = p.lines := rfl
      cases hb : cpR p != 0 with
      | true =>
        have hb' : (cpR p == 0) = false := by simpa [bne] using hb
        have hP : trgP p.norm l = .tup [.nils, .int .i64 (cpR p)] := by unfold trgP; rw [hcp, hb]; rfl
        have q36 := c36 true true [] [] (cpR p) (cpR p) (by decide)
        have hlr : listR [] (cpR p) (cpR p) [] = true := by unfold listR; rw [hb]; simp
        rw [hlr] at q36
        rw [show encS true (ints []) = .nils from rfl] at q36
        rw [hP] at q32
        generalize hN : encP p.norm = N at *
        rw [encP_eq] at q31 q33 q34 ⊢
        simp (config := { maxSteps := 2000000 }) +contextual only [go_sem, ↓reduceIte, r5, aw, q31, q22, q32, q33, q34, q36, hb', noAgg_encS, cells_encS]
      | false =>
        have hb0 : cpR p = 0 := by simpa using hb
        have ok := ok_of hb0
        have q28 := c28 p.lines ok.lines.1 ok.lines.2 nl l
        rw [hb0] at q34
        cases hg : ckSig p.lines l != 0 with
        | true =>
          have hg' : (ckSig p.lines l == 0) = false := by simpa [bne] using hg
          have hP : trgP p.norm l = .tup [.nils, .int .i64 (ckSig p.lines l)] := by unfold trgP; rw [hcp, hb, hpl, hg]; rfl
          have q36 := c36 true true [] [] (ckSig p.lines l) (ckSig p.lines l) (by decide)
          have hlr : listR [] (ckSig p.lines l) (ckSig p.lines l) [] = true := by unfold listR; rw [hg]; simp
          rw [hlr] at q36
          rw [show encS true (ints []) = .nils from rfl] at q36
          rw [hP] at q32
          generalize hN : encP p.norm = N at *
          rw [encP_eq] at q31 q33 q34 ⊢
          simp (config := { maxSteps := 2000000 }) +contextual only [go_sem, ↓reduceIte, r5, aw, q31, q22, q28, q32, q33, q34, q36, hg', noAgg_encS, cells_encS]
        | false =>
          have hg0 : ckSig p.lines l = 0 := by simpa using hg
          have hsig := okSig_of ok.lines.2 hg0
          have hP : trgP p.norm l = .tup [encS true (ints (trigsR l p.steps)), .int .i64 0] := by unfold trgP; rw [hcp, hb, hpl, hg, times_law l p ok]; rfl
          have q35 := c35 nl l hsig p (List.length_pos_iff.2 ok.ne) (by have := ok.few; omega) ok.wf
          have q36 := c36 true true (trigsR l p.steps) (trigsR l p.steps) 0 0 ?hlen
          case hlen => have := trR_len (Wn p.steps) (Tm p.steps) p.steps.length (Ha l p.steps) l.length 0 (0, 0, 0); have := hsig.1; unfold trigsR; omega
          have hlr : listR (trigsR l p.steps) 0 0 (trigsR l p.steps) = true := by unfold listR; rw [sameI_refl]; rfl
          rw [hlr] at q36
          rw [hg0] at q28
          rw [hP] at q32
          generalize hN : encP p.norm = N at *
          rw [encP_eq] at q31 q33 q34 q35 ⊢
          simp (config := { maxSteps := 2000000 }) +contextual only [go_sem, ↓reduceIte, r5, aw, q31, q22, q28, q32, q33, q34, q35, q36, noAgg_encS, cells_encS]
end Go.Am
